/- The rows that have a pair. -/
import Derived.Test.YtogidmceomlkeaaGreatDoorKw4
namespace Go.Proofs.YtogidmceomlkeaaGreatDoor.SL
open Go.RowKit Go.Proofs.YtogidmceomlkeaaGreatDoor
open Go.Proofs.YtogidmceomlkeaaGreatDoorW.PrintLast (rtab opsOf)
set_option linter.unusedVariables false
set_option linter.unusedSimpArgs false
theorem postingsOf_core_t13 : rtab .any (opsOf Tryz.f5 13) = (true, [([], []), ([], []), ([0, 1], [0, 1]), ([2], [2]), ([], []), ([3, 4], [3, 4]), ([5], [5]), ([6], [6]), ([], []), ([], []), ([8, 9], [8, 9]), ([10], [10]), ([], []), ([12], [12]), ([11, 13], [11, 13]), ([14], [14]), ([15], [15]), ([7, 16], [7, 16])]) := by kernel_rfl
set_option maxHeartbeats 2000000 in
theorem postingsOf_core {B w : World} {L : List HP} {a : Option Addr} {cap : Nat} {R : List RowV} (hA : RdRows B a R) (p : Pr) (hpp : p.n.length ≤ 140737488355328 ∧ p.v.length ≤ 140737488355328) (hpz : ∀ r ∈ R, r.l.length ≤ 4398046511104) (hS : St B L w) : Does Tryz.prog 5 [Value.slice a R.length cap, Value.agg #[str p.n, str p.v]] w (fun v w1 => v = .bool true ∧ St B L w1) := by
 replace hS := hS.addPure (p := True) trivial
 refine enter (n := 87) Tryz.func5 rfl rfl [Value.slice a R.length cap, Value.agg #[str p.n, str p.v]] rfl ?_
 refine WP.seq ?_
 refine WP.region rfl ?_
 refine WO.box (l := [str p.n, str p.v]) hS rfl rfl rfl (fun g2 w1 lg2 hS1 => ?_)
 clear hS
 refine WO.val (run_assign rfl) rfl rfl rfl ?_
 refine WO.nil ?_
 refine NX.go ?_
 refine WP.seq ?_
 refine WP.seq ?_
 refine WP.region rfl ?_
 refine WO.call rfl rfl Ty.hd6 rfl (pworks_spec hS1) (fun v4 w3 pv4 => ?_)
 obtain ⟨rfl, hS3⟩ := pv4
 clear hS1
 refine WO.val (run_not rfl rfl) rfl rfl rfl ?_
 refine WO.nil ?_
 refine NX.go ?_
 refine WP.condF rfl (notB_t rfl) ?_
 refine WP.skip ?_
 refine NX.go ?_
 refine WP.seq ?_
 refine WP.seq ?_
 refine WP.region rfl ?_
 refine WO.val (run_move rfl) rfl rfl rfl ?_
 refine WO.val (run_len rfl Tryz.underlying27 rfl) rfl rfl rfl ?_
 refine WO.val (run_gtr rfl rfl) rfl rfl rfl ?_
 refine WO.val (run_move rfl) rfl rfl rfl ?_
 by_cases g15 : 60 < ((R.length : Nat) : Int)
 ·
  refine WO.off rfl rfl (decide_eq_true g15) rfl ?_
  refine WO.off rfl rfl (decide_eq_true g15) rfl ?_
  refine WO.off rfl rfl (decide_eq_true g15) rfl ?_
  refine WO.val (run_pickT rfl (decide_eq_true g15) rfl) rfl rfl rfl ?_
  refine WO.nil ?_
  refine NX.go ?_
  refine WP.condT rfl rfl ?_
  refine WP.seq ?_
  refine WP.region rfl ?_
  refine WO.val (run_assign rfl) rfl rfl rfl ?_
  refine WO.nil ?_
  refine NX.go ?_
  refine WP.ret ?_
  refine NX.thenRet ?_
  refine NX.done (l := [.tmp 4]) rfl rfl ?_
  exact ⟨rfl, hS3.drop.drop⟩
 ·
  refine WO.on rfl rfl (decide_eq_false g15) ?_
  refine WO.val (run_fieldAddr (q := ⟨g2, 1, none⟩) (show fieldB Tryz.prog 35 1 = some 1 from by kernel_rfl) rfl rfl) rfl rfl rfl ?_
  refine WO.on rfl rfl (decide_eq_false g15) ?_
  refine WO.val (run_load Ty.ag9 rfl ((hS3.cel_at 0 rfl 1).trans rfl)) rfl rfl rfl ?_
  refine WO.on rfl rfl (decide_eq_false g15) ?_
  refine WO.val (run_eqlS rfl rfl) rfl rfl rfl ?_
  refine WO.val (run_pickF rfl (decide_eq_false g15) rfl) rfl rfl rfl ?_
  refine WO.nil ?_
  refine NX.go ?_
  refine WP.condP rfl (fun g19 => ?_) (fun g19 => ?_)
  ·
   refine WP.seq ?_
   refine WP.region rfl ?_
   refine WO.val (run_assign rfl) rfl rfl rfl ?_
   refine WO.nil ?_
   refine NX.go ?_
   refine WP.ret ?_
   refine NX.thenRet ?_
   refine NX.done (l := [.tmp 4]) rfl rfl ?_
   exact ⟨rfl, hS3.drop.drop⟩
  ·
   refine WP.skip ?_
   refine NX.go ?_
   refine WP.seq ?_
   refine WP.seq ?_
   refine WP.region rfl ?_
   refine WO.val (run_assign rfl) rfl rfl rfl ?_
   refine WO.nil ?_
   refine NX.go ?_
   refine WP.block ?_
   refine WP.loop (α := Nat) (fun x => match x with | i => [(0, Value.slice a R.length cap), (3, Value.pointer (some ⟨g2, 0, none⟩)), (5, Value.int .i64 (i : Int))]) (fun x w => match x with | i => (i ≤ R.length ∧ ∀ j r, j < i → R[j]? = some r → Rise r.l) ∧ St B (cel g2 [str p.n, str p.v] 35 :: (.pure True) :: L) w) (fun x => match x with | i => R.length - i) 0 ⟨⟨Nat.zero_le _, fun j r h => absurd h (by omega)⟩, hS3⟩ (Sub.cons rfl (Sub.cons rfl (Sub.consE rfl (by first | rfl | first | rfl | (congr 1; omega) | (simp; done) | (simp; omega)) (Sub.nil _)))) ?_
   rintro i w5 ⟨⟨hi, hrise⟩, hS5⟩
   clear hS3
   refine WP.seq ?_
   refine WP.seq ?_
   refine WP.region rfl ?_
   refine WO.val (run_move rfl) rfl rfl rfl ?_
   refine WO.val (run_move rfl) rfl rfl rfl ?_
   refine WO.val (run_len rfl Tryz.underlying27 rfl) rfl rfl rfl ?_
   refine WO.val (run_lss rfl rfl) rfl rfl rfl ?_
   refine WO.nil ?_
   refine NX.go ?_
   refine WP.condP rfl (fun g23 => ?_) (fun g23 => ?_)
   ·
    obtain ⟨r, hr⟩ : ∃ r, R[i]? = some r := ⟨_, List.getElem?_eq_getElem (by omega)⟩
    have hrm : r ∈ R := List.mem_of_getElem? hr
    have hrz := hpz r hrm
    refine WP.skip ?_
    refine NX.go ?_
    refine WP.seq ?_
    refine WP.block ?_
    refine WP.seq ?_
    refine WP.seq ?_
    refine WP.region rfl ?_
    refine WO.val (run_move rfl) rfl rfl rfl ?_
    refine WO.val (run_move rfl) rfl rfl rfl ?_
    refine WO.val (run_indexAddr (q := adr a i) Tryz.underlying27 Ty.sz29 rfl rfl (by omega) (by omega) (((fun h => St.rdB h hA.1) (hS5.focus 1 rfl)).2.1 (by omega)) (by simp)) rfl rfl rfl ?_
    refine WO.val (run_load Ty.ag29 rfl (((fun h => St.rdB h hA.1) (hS5.focus 1 rfl)).cell (row_get hr))) rfl rfl rfl ?_
    refine WO.val (run_len rfl Tryz.underlying29 rfl) rfl rfl rfl ?_
    refine WO.val (run_gtr rfl rfl) rfl rfl rfl ?_
    refine WO.nil ?_
    refine NX.go ?_
    refine WP.condP rfl (fun g31 => ?_) (fun g31 => ?_)
    ·
     refine WP.seq ?_
     refine WP.region rfl ?_
     refine WO.val (run_assign rfl) rfl rfl rfl ?_
     refine WO.nil ?_
     refine NX.go ?_
     refine WP.ret ?_
     refine NX.thenRet ?_
     refine NX.blkRet ?_
     refine NX.thenRet ?_
     refine NX.thenRet ?_
     refine NX.blkRet ?_
     refine NX.thenRet ?_
     refine NX.done (l := [.tmp 4]) rfl rfl ?_
     exact ⟨rfl, hS5.drop.drop⟩
    ·
     refine WP.skip ?_
     refine NX.go ?_
     refine WP.seq ?_
     refine WP.region rfl ?_
     refine WO.val (run_assign rfl) rfl rfl rfl ?_
     refine WO.nil ?_
     refine NX.go ?_
     refine WP.block ?_
     refine WP.loop (α := Nat) (fun x => match x with | k => [(0, Value.slice a R.length cap), (3, Value.pointer (some ⟨g2, 0, none⟩)), (5, Value.int .i64 (i : Int)), (6, Value.int .i64 (k : Int))]) (fun x w => match x with | k => (1 ≤ k ∧ k ≤ r.l.length + 1 ∧ ∀ q x y, q + 1 < k → r.l[q]? = some x → r.l[q + 1]? = some y → (strLt y.n x.n || decide (y.n = x.n)) = false) ∧ St B (cel g2 [str p.n, str p.v] 35 :: (.pure True) :: L) w) (fun x => match x with | k => r.l.length - k) 1 ⟨⟨Nat.le_refl _, by omega, fun q x y h => absurd h (by omega)⟩, hS5⟩ (Sub.cons rfl (Sub.cons rfl (Sub.cons rfl (Sub.consE rfl (by first | rfl | first | rfl | (congr 1; omega) | (simp; done) | (simp; omega)) (Sub.nil _))))) ?_
     rintro k w6 ⟨⟨hk1, hk2, hup⟩, hS6⟩
     clear hS5
     refine WP.seq ?_
     refine WP.seq ?_
     refine WP.region rfl ?_
     refine WO.val (run_move rfl) rfl rfl rfl ?_
     refine WO.val (run_move rfl) rfl rfl rfl ?_
     refine WO.val (run_move rfl) rfl rfl rfl ?_
     refine WO.val (run_indexAddr (q := adr a i) Tryz.underlying27 Ty.sz29 rfl rfl (by omega) (by omega) (((fun h => St.rdB h hA.1) (hS6.focus 1 rfl)).2.1 (by omega)) (by simp)) rfl rfl rfl ?_
     refine WO.val (run_load Ty.ag29 rfl (((fun h => St.rdB h hA.1) (hS6.focus 1 rfl)).cell (row_get hr))) rfl rfl rfl ?_
     refine WO.val (run_len rfl Tryz.underlying29 rfl) rfl rfl rfl ?_
     refine WO.val (run_lss rfl rfl) rfl rfl rfl ?_
     refine WO.nil ?_
     refine NX.go ?_
     refine WP.condP rfl (fun g38 => ?_) (fun g38 => ?_)
     ·
      refine WP.skip ?_
      refine NX.go ?_
      refine WP.seq ?_
      refine WP.block ?_
      refine WP.seq ?_
      have hsa : r.a.isSome = true := rd_isSome (hA.2 r hrm) (by omega)
      obtain ⟨x, hx⟩ : ∃ x, r.l[k]? = some x := ⟨_, List.getElem?_eq_getElem (by omega)⟩
      obtain ⟨y, hy⟩ : ∃ y, r.l[k - 1]? = some y := ⟨_, List.getElem?_eq_getElem (by omega)⟩
      refine WD.start (fun w => (∀ j, World.cell? w ⟨g2, j, none⟩ = [str p.n, str p.v][j]?) ∧ Rd w a R.length 1 (R.flatMap rowc) ∧ Rd w r.a r.l.length 2 (r.l.flatMap prc)) [] #[false, false, false, false, false, false, false, false, false, false, false, false, false, false, false, false, false, false] Ty.mo rfl (by kernel_rfl) hS6 (fun _ h => ⟨h.cel_at 0 rfl, ((fun h => St.rdB h hA.1) (h.focus 1 rfl)), ((fun h => St.rdB h (hA.2 r hrm)) (h.focus 1 rfl))⟩) (fun w7 hS7 s8 => ?_)
      clear hS6
      refine WD.pure (i := 0) postingsOf_core_t13 #[true, false, false, false, false, false, false, false, false, false, false, false, false, false, false, false, false, false] rfl rfl rfl (by kernel_rfl) (PQ.then (PQ.blk (PQ.then (PQ.then (PQ.blk (PQ.blk (PQ.then (PQ.then (PQ.blk (PQ.then PQ.body)))))))))) rfl (fun w => run_move rfl) ?_
      refine WD.pure (i := 1) postingsOf_core_t13 #[true, true, false, false, false, false, false, false, false, false, false, false, false, false, false, false, false, false] rfl rfl rfl (by kernel_rfl) (PQ.then (PQ.blk (PQ.then (PQ.then (PQ.blk (PQ.blk (PQ.then (PQ.then (PQ.blk (PQ.then PQ.body)))))))))) rfl (fun w => run_move rfl) ?_
      refine WD.take (i := 2) postingsOf_core_t13 #[true, true, true, false, false, false, false, false, false, false, false, false, false, false, false, false, false, false] s8 rfl rfl rfl (by kernel_rfl) (PQ.then (PQ.blk (PQ.then (PQ.then (PQ.blk (PQ.blk (PQ.then (PQ.then (PQ.blk (PQ.then PQ.body)))))))))) rfl (fun w hs => run_indexAddr (q := adr a i) Tryz.underlying27 Ty.sz29 rfl rfl (by omega) (by omega) ((hs.2.1).2.1 (by omega)) (by simp)) ?_
      refine WD.take (i := 3) postingsOf_core_t13 #[true, true, true, true, false, false, false, false, false, false, false, false, false, false, false, false, false, false] s8 rfl rfl rfl (by kernel_rfl) (PQ.then (PQ.blk (PQ.then (PQ.then (PQ.blk (PQ.blk (PQ.then (PQ.then (PQ.blk (PQ.then PQ.body)))))))))) rfl (fun w hs => run_load Ty.ag29 rfl ((hs.2.1).cell (row_get hr))) ?_
      refine WD.pure (i := 4) postingsOf_core_t13 #[true, true, true, true, true, false, false, false, false, false, false, false, false, false, false, false, false, false] rfl rfl rfl (by kernel_rfl) (PQ.then (PQ.blk (PQ.then (PQ.then (PQ.blk (PQ.blk (PQ.then (PQ.then (PQ.blk (PQ.then PQ.body)))))))))) rfl (fun w => run_move rfl) ?_
      refine WD.take (i := 5) postingsOf_core_t13 #[true, true, true, true, true, true, false, false, false, false, false, false, false, false, false, false, false, false] s8 rfl rfl rfl (by kernel_rfl) (PQ.then (PQ.blk (PQ.then (PQ.then (PQ.blk (PQ.blk (PQ.then (PQ.then (PQ.blk (PQ.then PQ.body)))))))))) rfl (fun w hs => run_indexAddr (q := adr r.a (k * 2)) Tryz.underlying29 Ty.sz35 rfl rfl (by omega) (by omega) ((hs.2.2).2.1 (by omega)) rfl) ?_
      refine WD.pure (i := 6) postingsOf_core_t13 #[true, true, true, true, true, true, true, false, false, false, false, false, false, false, false, false, false, false] rfl rfl rfl (by kernel_rfl) (PQ.then (PQ.blk (PQ.then (PQ.then (PQ.blk (PQ.blk (PQ.then (PQ.then (PQ.blk (PQ.then PQ.body)))))))))) rfl (fun w => run_fieldAddr (q := (adr r.a (k * 2 + 0))) (show fieldB Tryz.prog 35 0 = some 0 from by kernel_rfl) rfl (adr_add _ (by assumption) _ _)) ?_
      refine WD.take (i := 7) postingsOf_core_t13 #[true, true, true, true, true, true, true, true, false, false, false, false, false, false, false, false, false, false] s8 rfl rfl rfl (by kernel_rfl) (PQ.then (PQ.blk (PQ.then (PQ.then (PQ.blk (PQ.blk (PQ.then (PQ.then (PQ.blk (PQ.then PQ.body)))))))))) rfl (fun w hs => run_load Ty.ag9 rfl ((hs.2.2).cell ((flat_get prc_len hx (j := 0) (by decide)).trans rfl))) ?_
      refine WD.pure (i := 8) postingsOf_core_t13 #[true, true, true, true, true, true, true, true, true, false, false, false, false, false, false, false, false, false] rfl rfl rfl (by kernel_rfl) (PQ.then (PQ.blk (PQ.then (PQ.then (PQ.blk (PQ.blk (PQ.then (PQ.then (PQ.blk (PQ.then PQ.body)))))))))) rfl (fun w => run_move rfl) ?_
      refine WD.pure (i := 9) postingsOf_core_t13 #[true, true, true, true, true, true, true, true, true, true, false, false, false, false, false, false, false, false] rfl rfl rfl (by kernel_rfl) (PQ.then (PQ.blk (PQ.then (PQ.then (PQ.blk (PQ.blk (PQ.then (PQ.then (PQ.blk (PQ.then PQ.body)))))))))) rfl (fun w => run_move rfl) ?_
      refine WD.take (i := 10) postingsOf_core_t13 #[true, true, true, true, true, true, true, true, true, true, true, false, false, false, false, false, false, false] s8 rfl rfl rfl (by kernel_rfl) (PQ.then (PQ.blk (PQ.then (PQ.then (PQ.blk (PQ.blk (PQ.then (PQ.then (PQ.blk (PQ.then PQ.body)))))))))) rfl (fun w hs => run_indexAddr (q := adr a i) Tryz.underlying27 Ty.sz29 rfl rfl (by omega) (by omega) ((hs.2.1).2.1 (by omega)) (by simp)) ?_
      refine WD.take (i := 11) postingsOf_core_t13 #[true, true, true, true, true, true, true, true, true, true, true, true, false, false, false, false, false, false] s8 rfl rfl rfl (by kernel_rfl) (PQ.then (PQ.blk (PQ.then (PQ.then (PQ.blk (PQ.blk (PQ.then (PQ.then (PQ.blk (PQ.then PQ.body)))))))))) rfl (fun w hs => run_load Ty.ag29 rfl ((hs.2.1).cell (row_get hr))) ?_
      refine WD.pure (i := 12) postingsOf_core_t13 #[true, true, true, true, true, true, true, true, true, true, true, true, true, false, false, false, false, false] rfl rfl rfl (by kernel_rfl) (PQ.then (PQ.blk (PQ.then (PQ.then (PQ.blk (PQ.blk (PQ.then (PQ.then (PQ.blk (PQ.then PQ.body)))))))))) rfl (fun w => run_move rfl) ?_
      refine WD.pure (i := 13) postingsOf_core_t13 #[true, true, true, true, true, true, true, true, true, true, true, true, true, true, false, false, false, false] rfl rfl rfl (by kernel_rfl) (PQ.then (PQ.blk (PQ.then (PQ.then (PQ.blk (PQ.blk (PQ.then (PQ.then (PQ.blk (PQ.then PQ.body)))))))))) rfl (fun w => run_sub rfl rfl (show IntKind.i64.wrap ((k : Int) - 1) = ((k - 1 : Nat) : Int) by rw [IntWalk.i64_in _ (by omega)]; omega)) ?_
      refine WD.take (i := 14) postingsOf_core_t13 #[true, true, true, true, true, true, true, true, true, true, true, true, true, true, true, false, false, false] s8 rfl rfl rfl (by kernel_rfl) (PQ.then (PQ.blk (PQ.then (PQ.then (PQ.blk (PQ.blk (PQ.then (PQ.then (PQ.blk (PQ.then PQ.body)))))))))) rfl (fun w hs => run_indexAddr (q := adr r.a ((k - 1) * 2)) Tryz.underlying29 Ty.sz35 rfl rfl (by omega) (by omega) ((hs.2.2).2.1 (by omega)) rfl) ?_
      refine WD.pure (i := 15) postingsOf_core_t13 #[true, true, true, true, true, true, true, true, true, true, true, true, true, true, true, true, false, false] rfl rfl rfl (by kernel_rfl) (PQ.then (PQ.blk (PQ.then (PQ.then (PQ.blk (PQ.blk (PQ.then (PQ.then (PQ.blk (PQ.then PQ.body)))))))))) rfl (fun w => run_fieldAddr (q := (adr r.a ((k - 1) * 2 + 0))) (show fieldB Tryz.prog 35 0 = some 0 from by kernel_rfl) rfl (adr_add _ (by assumption) _ _)) ?_
      refine WD.take (i := 16) postingsOf_core_t13 #[true, true, true, true, true, true, true, true, true, true, true, true, true, true, true, true, true, false] s8 rfl rfl rfl (by kernel_rfl) (PQ.then (PQ.blk (PQ.then (PQ.then (PQ.blk (PQ.blk (PQ.then (PQ.then (PQ.blk (PQ.then PQ.body)))))))))) rfl (fun w hs => run_load Ty.ag9 rfl ((hs.2.2).cell ((flat_get prc_len hy (j := 0) (by decide)).trans rfl))) ?_
      refine WD.pure (i := 17) postingsOf_core_t13 #[true, true, true, true, true, true, true, true, true, true, true, true, true, true, true, true, true, true] rfl rfl rfl (by kernel_rfl) (PQ.then (PQ.blk (PQ.then (PQ.then (PQ.blk (PQ.blk (PQ.then (PQ.then (PQ.blk (PQ.then PQ.body)))))))))) rfl (fun w => run_leqS rfl rfl) ?_
      refine WD.done postingsOf_core_t13 (by kernel_rfl) ?_
      refine NX.go ?_
      refine WP.condB rfl (fun g58 => ?_) (fun g58 => ?_)
      ·
       refine WP.seq ?_
       refine WP.region rfl ?_
       refine WO.val (run_assign rfl) rfl rfl rfl ?_
       refine WO.nil ?_
       refine NX.go ?_
       refine WP.ret ?_
       refine NX.blkRet ?_
       refine NX.thenRet ?_
       refine NX.thenRet ?_
       refine NX.blkRet ?_
       refine NX.blkRet ?_
       refine NX.thenRet ?_
       refine NX.thenRet ?_
       refine NX.blkRet ?_
       refine NX.thenRet ?_
       refine NX.done (l := [.tmp 4]) rfl rfl ?_
       exact ⟨rfl, hS7.drop.drop⟩
      ·
       refine WP.skip ?_
       refine NX.blk ?_
       refine NX.go ?_
       refine WP.region rfl ?_
       refine WO.val (run_move rfl) rfl rfl rfl ?_
       refine WO.val (run_add rfl rfl (IntWalk.i64_in _ (by omega))) rfl rfl rfl ?_
       refine WO.val (run_assign rfl) rfl rfl rfl ?_
       refine WO.nil ?_
       exact NX.again (k + 1) ⟨⟨by omega, by omega, fun q u v hq hu hv => by rcases Nat.lt_or_ge (q + 1) k with h | h; (exact hup q u v h hu hv); (have e1 : q + 1 = k := by omega); (have e2 : q = k - 1 := by omega); rw [e1, hx] at hv; rw [e2, hy] at hu; cases hu; cases hv; exact g58⟩, hS7⟩ (by show r.l.length - (k + 1) < r.l.length - k; omega) (Sub.cons rfl (Sub.cons rfl (Sub.cons rfl (Sub.consE rfl (by congr 1) (Sub.nil _)))))
     ·
      refine WP.exit ?_
      refine NX.thenExit ?_
      refine NX.thenExit ?_
      refine NX.blkExit ?_
      refine NX.blk ?_
      refine NX.go ?_
      refine WP.region rfl ?_
      refine WO.val (run_move rfl) rfl rfl rfl ?_
      refine WO.val (run_add rfl rfl (IntWalk.i64_in _ (by omega))) rfl rfl rfl ?_
      refine WO.val (run_assign rfl) rfl rfl rfl ?_
      refine WO.nil ?_
      exact NX.again (i + 1) ⟨⟨by omega, fun j q hj hq => by rcases Nat.lt_or_ge j i with h | h; (exact hrise j q h hq); (have : j = i := by omega); subst this; rw [hr] at hq; cases hq; exact fun q x y hx hy => hup q x y (by have := (List.getElem?_eq_some_iff.1 hy).1; omega) hx hy⟩, hS6⟩ (by show R.length - (i + 1) < R.length - i; omega) (Sub.cons rfl (Sub.cons rfl (Sub.consE rfl (by congr 1) (Sub.nil _))))
   ·
    refine WP.exit ?_
    refine NX.thenExit ?_
    refine NX.thenExit ?_
    refine NX.blkExit ?_
    refine NX.go ?_
    refine WP.seq ?_
    refine WP.region rfl ?_
    refine WO.val (run_move rfl) rfl rfl rfl ?_
    have hS9 := hS5.permT [1, 0] (L' := (.pure True) :: cel g2 [str p.n, str p.v] 35 :: L) rfl
    clear hS5
    refine WO.call rfl rfl Ty.hd11 rfl (pNew_spec (X := .pure True) (fun h => rdRowsB h hA) (by omega) hpz hS9) (fun v11 w10 pv11 => ?_)
    obtain ⟨g, ar, cr, Q, rfl, hQ, hS10⟩ := pv11
    clear hS9
    have hQn : Q.length = R.length := by have := congrArg List.length hQ; simpa using this
    have hQb : ∀ r ∈ Q, r.l.length ≤ 4398046511104 := by
     intro q hq
     have h1 : q.l ∈ Q.map RowV.l := List.mem_map_of_mem hq
     rw [hQ] at h1
     obtain ⟨r, hr, e⟩ := List.mem_map.1 h1
     rw [← e]; exact hpz r hr
    refine WO.val (run_assign rfl) rfl rfl rfl ?_
    refine WO.nil ?_
    refine NX.go ?_
    refine WP.seq ?_
    refine WP.seq ?_
    refine WP.region rfl ?_
    refine WO.val (run_move rfl) rfl rfl rfl ?_
    refine WO.val (run_eqlNilP Tryz.underlying30 rfl rfl) rfl rfl rfl ?_
    refine WO.nil ?_
    refine NX.go ?_
    refine WP.condF rfl rfl ?_
    refine WP.skip ?_
    refine NX.go ?_
    refine WP.seq ?_
    refine WP.region rfl ?_
    refine WO.val (run_fieldAddr (q := ⟨g2, 0, none⟩) (show fieldB Tryz.prog 35 0 = some 0 from by kernel_rfl) rfl rfl) rfl rfl rfl ?_
    refine WO.val (run_load Ty.ag9 rfl ((hS10.cel_at 3 rfl 0).trans rfl)) rfl rfl rfl ?_
    refine WO.val (run_fieldAddr (q := ⟨g2, 1, none⟩) (show fieldB Tryz.prog 35 1 = some 1 from by kernel_rfl) rfl rfl) rfl rfl rfl ?_
    refine WO.val (run_load Ty.ag9 rfl ((hS10.cel_at 3 rfl 1).trans rfl)) rfl rfl rfl ?_
    refine WO.val (run_build (v := Value.agg #[Value.int .i64 1, str p.n, str p.v]) rfl (fun w => by kernel_rfl)) rfl rfl rfl ?_
    refine WO.buildSlice (l := [Value.int .i64 1, str p.n, str p.v]) hS10 Tryz.underlying28 rfl (fun w => by kernel_rfl) rfl (fun g13 w12 lg13 hS12 => ?_)
    clear hS10
    have hS12 := hS12.own_of_cel (m := 1) (k := 3) rfl
    replace hS12 : St B (own (some ⟨g13, 0, none⟩) 1 1 37 3 ((mOf p).flatMap mtc) :: cel g [Value.slice ar Q.length cr, Value.int .u32 0, Value.int .i32 0, Value.int .u32 0, Value.map none] 57 :: (rowsP ar Q) :: (.pure True) :: cel g2 [str p.n, str p.v] 35 :: L) w12 := hS12
    refine WO.val (run_assign rfl) rfl rfl rfl ?_
    refine WO.nil ?_
    refine NX.go ?_
    refine WP.seq ?_
    refine WP.region rfl ?_
    refine WO.val (run_move rfl) rfl rfl rfl ?_
    refine WO.val (run_move rfl) rfl rfl rfl ?_
    have hS14 := hS12.permT [1, 1, 0, 0, 0] (L' := cel g [Value.slice ar Q.length cr, Value.int .u32 0, Value.int .i32 0, Value.int .u32 0, Value.map none] 57 :: (rowsP ar Q) :: own (some ⟨g13, 0, none⟩) 1 1 37 3 ((mOf p).flatMap mtc) :: (.pure True) :: cel g2 [str p.n, str p.v] 35 :: L) rfl
    clear hS12
    refine WO.call rfl rfl Ty.hd12 rfl (pFind_spec (M := own (some ⟨g13, 0, none⟩) 1 1 37 3 ((mOf p).flatMap mtc)) (ms := mOf p) (fun h => h.own_rd.1) (by omega) hQb (by intro m hm; simp only [mOf, List.mem_singleton] at hm; subst hm; exact hpp) (by simp [mOf]) hS14) (fun v16 w15 pv16 => ?_)
    obtain ⟨a3, c3, hv3, hS15⟩ := pv16
    clear hS14
    rw [hQ] at hv3 hS15
    subst hv3
    replace hS15 : St B (own a3 ((findF (R.map RowV.l) (mOf p)).length) c3 3 1 (ri (findF (R.map RowV.l) (mOf p))) :: cel g [Value.slice ar Q.length cr, Value.int .u32 0, Value.int .i32 0, Value.int .u32 0, Value.map none] 57 :: (rowsP ar Q) :: own (some ⟨g13, 0, none⟩) 1 1 37 3 ((mOf p).flatMap mtc) :: (.pure True) :: cel g2 [str p.n, str p.v] 35 :: L) w15 := hS15
    refine WO.val (run_assign rfl) rfl rfl rfl ?_
    refine WO.nil ?_
    refine NX.go ?_
    refine WP.seq ?_
    refine WP.seq ?_
    refine WP.region rfl ?_
    refine WO.val (run_loadAgg (vs := [str p.n, str p.v]) Ty.ag35 Ty.sz35 rfl rfl (cell_all (hS15.cel_at 5 rfl) 0 rfl)) rfl rfl rfl ?_
    refine WO.buildSlice (l := [str p.n, str p.v]) hS15 Tryz.underlying29 rfl (fun w => by kernel_rfl) rfl (fun g18 w17 lg18 hS17 => ?_)
    clear hS15
    have hS17 := hS17.own_of_cel (m := 1) (k := 2) rfl
    refine WO.buildSlice (l := [Value.slice (some ⟨g18, 0, none⟩) 1 1]) hS17 Tryz.underlying27 rfl (fun w => by kernel_rfl) rfl (fun g20 w19 lg20 hS19 => ?_)
    clear hS17
    have hS19 := hS19.own_of_cel (m := 1) (k := 1) rfl
    refine WO.val (run_move rfl) rfl rfl rfl ?_
    have hja : St B (own (some ⟨g18, 0, none⟩) 1 1 35 2 [str p.n, str p.v] :: .pure True :: own (some ⟨g20, 0, none⟩) 1 1 29 1 [Value.slice (some ⟨g18, 0, none⟩) 1 1] :: own a3 ((findF (R.map RowV.l) (mOf p)).length) c3 3 1 (ri (findF (R.map RowV.l) (mOf p))) :: cel g [Value.slice ar Q.length cr, Value.int .u32 0, Value.int .i32 0, Value.int .u32 0, Value.map none] 57 :: (rowsP ar Q) :: own (some ⟨g13, 0, none⟩) 1 1 37 3 ((mOf p).flatMap mtc) :: (.pure True) :: cel g2 [str p.n, str p.v] 35 :: L) w19 := ((((hS19.permT [1, 0, 0, 0, 0, 0, 0, 0] (L' := own (some ⟨g18, 0, none⟩) 1 1 35 2 [str p.n, str p.v] :: own (some ⟨g20, 0, none⟩) 1 1 29 1 [Value.slice (some ⟨g18, 0, none⟩) 1 1] :: own a3 ((findF (R.map RowV.l) (mOf p)).length) c3 3 1 (ri (findF (R.map RowV.l) (mOf p))) :: cel g [Value.slice ar Q.length cr, Value.int .u32 0, Value.int .i32 0, Value.int .u32 0, Value.map none] 57 :: (rowsP ar Q) :: own (some ⟨g13, 0, none⟩) 1 1 37 3 ((mOf p).flatMap mtc) :: (.pure True) :: cel g2 [str p.n, str p.v] 35 :: L) rfl)).addPure (p := True) trivial).permT [1, 0] rfl)
    have hS21 : St B ((HP.sep (own (some ⟨g20, 0, none⟩) 1 1 29 1 ([(⟨some ⟨g18, 0, none⟩, [p], 1⟩ : RowV)].flatMap rowc)) (ownRows [(⟨some ⟨g18, 0, none⟩, [p], 1⟩ : RowV)])) :: own a3 ((findF (R.map RowV.l) (mOf p)).length) c3 3 1 (ri (findF (R.map RowV.l) (mOf p))) :: cel g [Value.slice ar Q.length cr, Value.int .u32 0, Value.int .i32 0, Value.int .u32 0, Value.map none] 57 :: (rowsP ar Q) :: own (some ⟨g13, 0, none⟩) 1 1 37 3 ((mOf p).flatMap mtc) :: (.pure True) :: cel g2 [str p.n, str p.v] 35 :: L) w19 := St.join (hja.join.permT [1, 0] (L' := own (some ⟨g20, 0, none⟩) 1 1 29 1 [Value.slice (some ⟨g18, 0, none⟩) 1 1] :: ownRows [(⟨some ⟨g18, 0, none⟩, [p], 1⟩ : RowV)] :: own a3 ((findF (R.map RowV.l) (mOf p)).length) c3 3 1 (ri (findF (R.map RowV.l) (mOf p))) :: cel g [Value.slice ar Q.length cr, Value.int .u32 0, Value.int .i32 0, Value.int .u32 0, Value.map none] 57 :: (rowsP ar Q) :: own (some ⟨g13, 0, none⟩) 1 1 37 3 ((mOf p).flatMap mtc) :: (.pure True) :: cel g2 [str p.n, str p.v] 35 :: L) rfl)
    clear hS19
    have hS22 := hS21.permT [0, 3, 0, 0, 0, 0, 0] (L' := (HP.sep (own (some ⟨g20, 0, none⟩) 1 1 29 1 ([(⟨some ⟨g18, 0, none⟩, [p], 1⟩ : RowV)].flatMap rowc)) (ownRows [(⟨some ⟨g18, 0, none⟩, [p], 1⟩ : RowV)])) :: own (some ⟨g13, 0, none⟩) 1 1 37 3 ((mOf p).flatMap mtc) :: own a3 ((findF (R.map RowV.l) (mOf p)).length) c3 3 1 (ri (findF (R.map RowV.l) (mOf p))) :: cel g [Value.slice ar Q.length cr, Value.int .u32 0, Value.int .i32 0, Value.int .u32 0, Value.map none] 57 :: (rowsP ar Q) :: (.pure True) :: cel g2 [str p.n, str p.v] 35 :: L) rfl
    clear hS21
    refine WO.call rfl rfl Ty.hd13 rfl (rFind_spec (X := (HP.sep (own (some ⟨g20, 0, none⟩) 1 1 29 1 ([(⟨some ⟨g18, 0, none⟩, [p], 1⟩ : RowV)].flatMap rowc)) (ownRows [(⟨some ⟨g18, 0, none⟩, [p], 1⟩ : RowV)]))) (M := own (some ⟨g13, 0, none⟩) 1 1 37 3 ((mOf p).flatMap mtc)) (R := [(⟨some ⟨g18, 0, none⟩, [p], 1⟩ : RowV)]) (ms := mOf p) (fun h => ⟨h.sep.own_rd.1, ownRows_rd (h.sep.permT [1, 0] rfl)⟩) (fun h => h.own_rd.1) (Nat.le_of_ble_eq_true rfl) (by intro r hr; simp only [List.mem_cons, List.mem_nil_iff, or_false] at hr; subst hr; exact Nat.le_of_ble_eq_true rfl) (by intro m hm; simp only [mOf, List.mem_singleton] at hm; subst hm; exact hpp) (by simp [mOf]) hS22) (fun v24 w23 pv24 => ?_)
    obtain ⟨a5, c5, hv5, hS23⟩ := pv24
    clear hS22
    change _ = Value.slice a5 (findF [[p]] (mOf p)).length c5 at hv5
    subst hv5
    replace hS23 : St B (own a5 ((findF [[p]] (mOf p)).length) c5 3 1 (ri (findF [[p]] (mOf p))) :: (HP.sep (own (some ⟨g20, 0, none⟩) 1 1 29 1 ([(⟨some ⟨g18, 0, none⟩, [p], 1⟩ : RowV)].flatMap rowc)) (ownRows [(⟨some ⟨g18, 0, none⟩, [p], 1⟩ : RowV)])) :: own (some ⟨g13, 0, none⟩) 1 1 37 3 ((mOf p).flatMap mtc) :: own a3 ((findF (R.map RowV.l) (mOf p)).length) c3 3 1 (ri (findF (R.map RowV.l) (mOf p))) :: cel g [Value.slice ar Q.length cr, Value.int .u32 0, Value.int .i32 0, Value.int .u32 0, Value.map none] 57 :: (rowsP ar Q) :: (.pure True) :: cel g2 [str p.n, str p.v] 35 :: L) w23 := hS23
    have hone := find_one p
    have hS25 : St B (own a5 ((findF [[p]] (mOf p)).length) c5 3 1 (ri (findF [[p]] (mOf p))) :: own a3 ((findF (R.map RowV.l) (mOf p)).length) c3 3 1 (ri (findF (R.map RowV.l) (mOf p))) :: cel g [Value.slice ar Q.length cr, Value.int .u32 0, Value.int .i32 0, Value.int .u32 0, Value.map none] 57 :: (rowsP ar Q) :: cel g2 [str p.n, str p.v] 35 :: L) w23 := (hS23.permT [1, 1, 4, 0, 0, 0, 0, 0] (L' := (HP.sep (own (some ⟨g20, 0, none⟩) 1 1 29 1 ([(⟨some ⟨g18, 0, none⟩, [p], 1⟩ : RowV)].flatMap rowc)) (ownRows [(⟨some ⟨g18, 0, none⟩, [p], 1⟩ : RowV)])) :: own (some ⟨g13, 0, none⟩) 1 1 37 3 ((mOf p).flatMap mtc) :: (.pure True) :: own a5 ((findF [[p]] (mOf p)).length) c5 3 1 (ri (findF [[p]] (mOf p))) :: own a3 ((findF (R.map RowV.l) (mOf p)).length) c3 3 1 (ri (findF (R.map RowV.l) (mOf p))) :: cel g [Value.slice ar Q.length cr, Value.int .u32 0, Value.int .i32 0, Value.int .u32 0, Value.map none] 57 :: (rowsP ar Q) :: cel g2 [str p.n, str p.v] 35 :: L) rfl).drop.drop.drop
    clear hS23
    refine WO.val (run_len rfl Tryz.underlying22 rfl) rfl rfl rfl ?_
    refine WO.val (run_eql rfl rfl) rfl rfl rfl ?_
    refine WO.nil ?_
    refine NX.go ?_
    refine WP.condP rfl (fun g78 => ?_) (fun g78 => ?_)
    ·
     have hmk : ¬ mchk (mOf p) = 0 := by intro e; rw [if_pos e] at hone; omega
     refine WP.seq ?_
     refine WP.region rfl ?_
     refine WO.val (run_move rfl) rfl rfl rfl ?_
     refine WO.val (run_len rfl Tryz.underlying22 rfl) rfl rfl rfl ?_
     refine WO.val (run_eql rfl rfl) rfl rfl rfl ?_
     refine WO.val (run_assign rfl) rfl rfl rfl ?_
     refine WO.nil ?_
     refine NX.go ?_
     refine WP.ret ?_
     refine NX.thenRet ?_
     refine NX.done (l := [.tmp 4]) rfl rfl ?_
     exact ⟨congrArg Value.bool (decide_eq_true (by unfold findF; rw [find_none hmk]; rfl)), hS25.drop.drop.drop.drop.drop⟩
    ·
     have hmk : mchk (mOf p) = 0 := by by_cases e : mchk (mOf p) = 0; (exact e); (rw [if_neg e] at hone; omega)
     have hvne : p.v ≠ [] := by assumption
     refine WP.skip ?_
     refine NX.go ?_
     refine WP.seq ?_
     refine WP.region rfl ?_
     refine WO.val (run_move rfl) rfl rfl rfl ?_
     refine WO.val (run_loadAgg (vs := [str p.n, str p.v]) Ty.ag35 Ty.sz35 rfl rfl (cell_all (hS25.cel_at 4 rfl) 0 rfl)) rfl rfl rfl ?_
     have hS26 := hS25.permT [2, 2, 0, 0, 0] (L' := cel g [Value.slice ar Q.length cr, Value.int .u32 0, Value.int .i32 0, Value.int .u32 0, Value.map none] 57 :: (rowsP ar Q) :: own a5 ((findF [[p]] (mOf p)).length) c5 3 1 (ri (findF [[p]] (mOf p))) :: own a3 ((findF (R.map RowV.l) (mOf p)).length) c3 3 1 (ri (findF (R.map RowV.l) (mOf p))) :: cel g2 [str p.n, str p.v] 35 :: L) rfl
     clear hS25
     refine WO.call rfl rfl Ty.hd14 rfl (pOf_spec (by omega) hQb p hS26) (fun v28 w27 pv28 => ?_)
     obtain ⟨a1, c1, rr, ds, hv1, hall, hS27⟩ := pv28
     clear hS26
     rw [hQ] at hv1 hS27
     subst hv1
     replace hS27 : St B (own a1 ((ofF (R.map RowV.l) p).length) c1 3 1 (ri (ofF (R.map RowV.l) p)) :: cel g [Value.slice ar Q.length cr, Value.int .u32 1, Value.int .i32 0, Value.int .u32 0, Value.map (some rr)] 57 :: (mpK encPr rr (ents ds)) :: (ownAll ds) :: (rowsP ar Q) :: own a5 ((findF [[p]] (mOf p)).length) c5 3 1 (ri (findF [[p]] (mOf p))) :: own a3 ((findF (R.map RowV.l) (mOf p)).length) c3 3 1 (ri (findF (R.map RowV.l) (mOf p))) :: cel g2 [str p.n, str p.v] 35 :: L) w27 := hS27
     refine WO.val (run_move rfl) rfl rfl rfl ?_
     have hS29 := hS27.permT [0, 5, 0, 0, 0, 0, 0, 0] (L' := own a1 ((ofF (R.map RowV.l) p).length) c1 3 1 (ri (ofF (R.map RowV.l) p)) :: own a3 ((findF (R.map RowV.l) (mOf p)).length) c3 3 1 (ri (findF (R.map RowV.l) (mOf p))) :: cel g [Value.slice ar Q.length cr, Value.int .u32 1, Value.int .i32 0, Value.int .u32 0, Value.map (some rr)] 57 :: (mpK encPr rr (ents ds)) :: (ownAll ds) :: (rowsP ar Q) :: own a5 ((findF [[p]] (mOf p)).length) c5 3 1 (ri (findF [[p]] (mOf p))) :: cel g2 [str p.n, str p.v] 35 :: L) rfl
     clear hS27
     refine WO.call rfl rfl Ty.hd10 rfl (same_spec (l := (ofF (R.map RowV.l) p)) (m := (findF (R.map RowV.l) (mOf p))) (fun h => h.own_rd.1) (fun h => h.own_rd.1) (Nat.le_trans (of_len _ _) (by rw [List.length_map]; omega)) hS29) (fun v31 w30 pv31 => ?_)
     obtain ⟨hv, hS30⟩ := pv31
     clear hS29
     replace hv : v31 = Value.bool true := hv.trans (congrArg Value.bool (decide_eq_true (of_find hmk hvne (fun q hq => by obtain ⟨r, hr, rfl⟩ := List.mem_map.1 hq; obtain ⟨j, hj, e⟩ := List.getElem_of_mem hr; exact hrise j r (by omega) (by rw [List.getElem?_eq_getElem hj, e])))))
     subst hv
     replace hS30 : St B (own a1 ((ofF (R.map RowV.l) p).length) c1 3 1 (ri (ofF (R.map RowV.l) p)) :: own a3 ((findF (R.map RowV.l) (mOf p)).length) c3 3 1 (ri (findF (R.map RowV.l) (mOf p))) :: cel g [Value.slice ar Q.length cr, Value.int .u32 1, Value.int .i32 0, Value.int .u32 0, Value.map (some rr)] 57 :: (mpK encPr rr (ents ds)) :: (ownAll ds) :: (rowsP ar Q) :: own a5 ((findF [[p]] (mOf p)).length) c5 3 1 (ri (findF [[p]] (mOf p))) :: cel g2 [str p.n, str p.v] 35 :: L) w30 := hS30
     refine WO.val (run_assign rfl) rfl rfl rfl ?_
     refine WO.nil ?_
     refine NX.go ?_
     refine WP.ret ?_
     refine NX.done (l := [.tmp 4]) rfl rfl ?_
     exact ⟨rfl, hS30.drop.drop.drop.drop.drop.drop.drop.drop⟩
end Go.Proofs.YtogidmceomlkeaaGreatDoor.SL
