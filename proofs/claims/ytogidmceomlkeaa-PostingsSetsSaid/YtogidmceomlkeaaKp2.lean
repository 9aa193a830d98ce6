/- The reference of layer 14: what is the same; And and Less. -/
import Derived.Test.YtogidmceomlkeaaKp1
namespace Go.Proofs.Ytogidmceomlkeaa.SL
open Go.RowKit Go.Proofs.Ytogidmceomlkeaa
open Go.Proofs.YtogidmceomlkeaaW.PrintLast (rtab opsOf)
set_option linter.unusedVariables false
set_option linter.unusedSimpArgs false
theorem same_spec_t6 : rtab .any (opsOf Try.f4 6) = (true, [([], []), ([], []), ([0, 1], [0, 1]), ([2], [2]), ([], []), ([], []), ([4, 5], [4, 5]), ([6], [6]), ([3, 7], [3, 7])]) := by kernel_rfl
theorem same_spec {B w : World} {L : List HP} {X Y : HP} {a b : Option Addr} {cap cap2 : Nat} {l m : List Int} (hX : ∀ {L : List HP} {w : World}, St B (X :: L) w → Rd w a l.length 1 (ri l)) (hY : ∀ {L : List HP} {w : World}, St B (Y :: L) w → Rd w b m.length 1 (ri m)) (hb : l.length ≤ 1000000) (hS : St B (X :: Y :: L) w) : Does Try.prog 4 [Value.slice a l.length cap, Value.slice b m.length cap2] w (fun v w1 => v = .bool (decide (l = m)) ∧ St B (X :: Y :: L) w1) := by
 refine enter (n := 26) Try.func4 rfl rfl [Value.slice a l.length cap, Value.slice b m.length cap2] rfl ?_
 refine WP.seq ?_
 refine WP.region rfl ?_
 refine WO.val (run_assign rfl) rfl rfl rfl ?_
 refine WO.nil ?_
 refine NX.go ?_
 refine WP.seq ?_
 refine WP.seq ?_
 refine WP.region rfl ?_
 refine WO.val (run_move rfl) rfl rfl rfl ?_
 refine WO.val (run_len rfl Try.underlying22 rfl) rfl rfl rfl ?_
 refine WO.val (run_move rfl) rfl rfl rfl ?_
 refine WO.val (run_len rfl Try.underlying22 rfl) rfl rfl rfl ?_
 refine WO.val (run_neq rfl rfl) rfl rfl rfl ?_
 refine WO.nil ?_
 refine NX.go ?_
 refine WP.condP rfl (fun g10 => ?_) (fun g10 => ?_)
 ·
  refine WP.seq ?_
  refine WP.region rfl ?_
  refine WO.val (run_assign rfl) rfl rfl rfl ?_
  refine WO.nil ?_
  refine NX.go ?_
  refine WP.ret ?_
  refine NX.thenRet ?_
  refine NX.done (l := [.tmp 4]) rfl rfl ?_
  exact ⟨congrArg Value.bool (decide_eq_false (fun e => by rw [e] at g10; exact g10 rfl)).symm, hS⟩
 ·
  refine WP.skip ?_
  refine NX.go ?_
  refine WP.seq ?_
  refine WP.seq ?_
  refine WP.region rfl ?_
  refine WO.val (run_assign rfl) rfl rfl rfl ?_
  refine WO.nil ?_
  refine NX.go ?_
  refine WP.block ?_
  refine WP.loop (α := Nat) (fun x => match x with | i => [(0, Value.slice a l.length cap), (1, Value.slice b m.length cap2), (5, Value.int .i64 (i : Int))]) (fun x w => match x with | i => (i ≤ l.length ∧ l.take i = m.take i) ∧ St B (X :: Y :: L) w) (fun x => match x with | i => l.length - i) 0 ⟨⟨by omega, by simp⟩, hS⟩ (Sub.cons rfl (Sub.cons rfl (Sub.consE rfl (by first | rfl | first | rfl | (congr 1; omega) | (simp; done) | (simp; omega)) (Sub.nil _)))) ?_
  rintro i w1 ⟨⟨hi, hni⟩, hS1⟩
  clear hS
  refine WP.seq ?_
  refine WP.seq ?_
  refine WP.region rfl ?_
  refine WO.val (run_move rfl) rfl rfl rfl ?_
  refine WO.val (run_move rfl) rfl rfl rfl ?_
  refine WO.val (run_len rfl Try.underlying22 rfl) rfl rfl rfl ?_
  refine WO.val (run_lss rfl rfl) rfl rfl rfl ?_
  refine WO.nil ?_
  refine NX.go ?_
  refine WP.condP rfl (fun g14 => ?_) (fun g14 => ?_)
  ·
   refine WP.skip ?_
   refine NX.go ?_
   refine WP.seq ?_
   refine WP.block ?_
   refine WP.seq ?_
   refine WD.start (fun w => Rd w a l.length 1 (ri l) ∧ Rd w b m.length 1 (ri m)) [] #[false, false, false, false, false, false, false, false, false] Ty.mo rfl (by kernel_rfl) hS1 (fun _ h => ⟨(hX (h.focus 0 rfl)), (hY (h.focus 1 rfl))⟩) (fun w2 hS2 s3 => ?_)
   clear hS1
   refine WD.pure (i := 0) same_spec_t6 #[true, false, false, false, false, false, false, false, false] rfl rfl rfl (by kernel_rfl) (PQ.then (PQ.blk (PQ.then (PQ.then (PQ.blk (PQ.then PQ.body)))))) rfl (fun w => run_move rfl) ?_
   refine WD.pure (i := 1) same_spec_t6 #[true, true, false, false, false, false, false, false, false] rfl rfl rfl (by kernel_rfl) (PQ.then (PQ.blk (PQ.then (PQ.then (PQ.blk (PQ.then PQ.body)))))) rfl (fun w => run_move rfl) ?_
   obtain ⟨x, hx⟩ : ∃ x, l[i]? = some x := ⟨_, List.getElem?_eq_getElem (by omega)⟩
   refine WD.take (i := 2) same_spec_t6 #[true, true, true, false, false, false, false, false, false] s3 rfl rfl rfl (by kernel_rfl) (PQ.then (PQ.blk (PQ.then (PQ.then (PQ.blk (PQ.then PQ.body)))))) rfl (fun w hs => run_indexAddr (q := adr a i) Try.underlying22 Ty.sz3 rfl rfl (by omega) (by omega) ((hs.1).2.1 (by omega)) (by simp)) ?_
   refine WD.take (i := 3) same_spec_t6 #[true, true, true, true, false, false, false, false, false] s3 rfl rfl rfl (by kernel_rfl) (PQ.then (PQ.blk (PQ.then (PQ.then (PQ.blk (PQ.then PQ.body)))))) rfl (fun w hs => run_load Ty.ag3 rfl ((hs.1).cell (ri_get hx))) ?_
   refine WD.pure (i := 4) same_spec_t6 #[true, true, true, true, true, false, false, false, false] rfl rfl rfl (by kernel_rfl) (PQ.then (PQ.blk (PQ.then (PQ.then (PQ.blk (PQ.then PQ.body)))))) rfl (fun w => run_move rfl) ?_
   refine WD.pure (i := 5) same_spec_t6 #[true, true, true, true, true, true, false, false, false] rfl rfl rfl (by kernel_rfl) (PQ.then (PQ.blk (PQ.then (PQ.then (PQ.blk (PQ.then PQ.body)))))) rfl (fun w => run_move rfl) ?_
   obtain ⟨y, hy⟩ : ∃ y, m[i]? = some y := ⟨_, List.getElem?_eq_getElem (by omega)⟩
   refine WD.take (i := 6) same_spec_t6 #[true, true, true, true, true, true, true, false, false] s3 rfl rfl rfl (by kernel_rfl) (PQ.then (PQ.blk (PQ.then (PQ.then (PQ.blk (PQ.then PQ.body)))))) rfl (fun w hs => run_indexAddr (q := adr b i) Try.underlying22 Ty.sz3 rfl rfl (by omega) (by omega) ((hs.2).2.1 (by omega)) (by simp)) ?_
   refine WD.take (i := 7) same_spec_t6 #[true, true, true, true, true, true, true, true, false] s3 rfl rfl rfl (by kernel_rfl) (PQ.then (PQ.blk (PQ.then (PQ.then (PQ.blk (PQ.then PQ.body)))))) rfl (fun w hs => run_load Ty.ag3 rfl ((hs.2).cell (ri_get hy))) ?_
   refine WD.pure (i := 8) same_spec_t6 #[true, true, true, true, true, true, true, true, true] rfl rfl rfl (by kernel_rfl) (PQ.then (PQ.blk (PQ.then (PQ.then (PQ.blk (PQ.then PQ.body)))))) rfl (fun w => run_neq rfl rfl) ?_
   refine WD.done same_spec_t6 (by kernel_rfl) ?_
   refine NX.go ?_
   refine WP.condP rfl (fun g25 => ?_) (fun g25 => ?_)
   ·
    refine WP.seq ?_
    refine WP.region rfl ?_
    refine WO.val (run_assign rfl) rfl rfl rfl ?_
    refine WO.nil ?_
    refine NX.go ?_
    refine WP.ret ?_
    refine NX.blkRet ?_
    refine NX.thenRet ?_
    refine NX.thenRet ?_
    refine NX.blkRet ?_
    refine NX.thenRet ?_
    refine NX.done (l := [.tmp 4]) rfl rfl ?_
    exact ⟨congrArg Value.bool (decide_eq_false (fun e => by rw [e, hy] at hx; exact g25 (Option.some.inj hx).symm)).symm, hS2⟩
   ·
    refine WP.skip ?_
    refine NX.blk ?_
    refine NX.go ?_
    refine WP.region rfl ?_
    refine WO.val (run_move rfl) rfl rfl rfl ?_
    refine WO.val (run_add rfl rfl (IntWalk.i64_in _ (by omega))) rfl rfl rfl ?_
    refine WO.val (run_assign rfl) rfl rfl rfl ?_
    refine WO.nil ?_
    exact NX.again (i + 1) ⟨⟨by omega, by rw [List.take_add_one, List.take_add_one, hx, hy, hni, Decidable.of_not_not g25]⟩, hS2⟩ (by show l.length - (i + 1) < l.length - i; omega) (Sub.cons rfl (Sub.cons rfl (Sub.consE rfl (by congr 1) (Sub.nil _))))
  ·
   refine WP.exit ?_
   refine NX.thenExit ?_
   refine NX.thenExit ?_
   refine NX.blkExit ?_
   refine NX.go ?_
   refine WP.seq ?_
   refine WP.region rfl ?_
   refine WO.val (run_assign rfl) rfl rfl rfl ?_
   refine WO.nil ?_
   refine NX.go ?_
   refine WP.ret ?_
   refine NX.done (l := [.tmp 4]) rfl rfl ?_
   exact ⟨congrArg Value.bool (decide_eq_true (by rw [List.take_of_length_le (by omega), List.take_of_length_le (by omega)] at hni; exact hni)).symm, hS1⟩

theorem andR_stepT {m l : List Int} {i : Nat} {x : Int} (h : l[i]? = some x) (hm : x ∈ m) : andR m (l.take (i + 1)) = putF (andR m (l.take i)) x := by
  unfold andR; rw [fold_take _ _ h, if_pos hm]
theorem andR_stepF {m l : List Int} {i : Nat} {x : Int} (h : l[i]? = some x) (hm : ¬ x ∈ m) : andR m (l.take (i + 1)) = andR m (l.take i) := by
  unfold andR; rw [fold_take _ _ h, if_neg hm]
theorem rAnd_spec {B w : World} {L : List HP} {X Y : HP} {a b : Option Addr} {cap cap2 : Nat} {l m : List Int} (hX : ∀ {L : List HP} {w : World}, St B (X :: L) w → Rd w a l.length 1 (ri l)) (hY : ∀ {L : List HP} {w : World}, St B (Y :: L) w → Rd w b m.length 1 (ri m)) (hb : l.length ≤ 1000000) (hb2 : m.length ≤ 1000000) (hS : St B (X :: Y :: L) w) : Does Try.prog 6 [Value.slice a l.length cap, Value.slice b m.length cap2] w (fun v w1 => ∃ a1 c1, v = .slice a1 (andR m l).length c1 ∧ St B (own a1 (andR m l).length c1 3 1 (ri (andR m l)) :: X :: Y :: L) w1) := by
 refine enter (n := 26) Try.func6 rfl rfl [Value.slice a l.length cap, Value.slice b m.length cap2] rfl ?_
 refine WP.seq ?_
 refine WP.region rfl ?_
 refine WO.val (run_assign rfl) rfl rfl rfl ?_
 refine WO.nil ?_
 refine NX.go ?_
 refine WP.seq ?_
 refine WP.region rfl ?_
 refine WO.val (run_assign rfl) rfl rfl rfl ?_
 refine WO.nil ?_
 refine NX.go ?_
 refine WP.seq ?_
 refine WP.seq ?_
 refine WP.region rfl ?_
 refine WO.val (run_assign rfl) rfl rfl rfl ?_
 refine WO.nil ?_
 refine NX.go ?_
 refine WP.block ?_
 have hSq := (hS.own_nil 3 1).permT [1, 1, 0] (L' := X :: Y :: own none 0 0 3 1 [] :: L) rfl
 refine WP.loop (α := Nat × Option Addr × Nat) (fun x => match x with | ⟨i, ao, co⟩ => [(0, Value.slice a l.length cap), (1, Value.slice b m.length cap2), (5, Value.slice ao ((andR m (l.take i)).length) co), (6, Value.int .i64 (i : Int))]) (fun x w => match x with | ⟨i, ao, co⟩ => (i ≤ l.length) ∧ St B (X :: Y :: own ao ((andR m (l.take i)).length) co 3 1 (ri (andR m (l.take i))) :: L) w) (fun x => match x with | ⟨i, ao, co⟩ => l.length - i) (0, none, 0) ⟨by omega, hSq⟩ (Sub.cons rfl (Sub.cons rfl (Sub.consE rfl (by first | rfl | first | rfl | (congr 1; omega) | (simp; done) | (simp; omega)) (Sub.consE rfl (by first | rfl | first | rfl | (congr 1; omega) | (simp; done) | (simp; omega)) (Sub.nil _))))) ?_
 rintro ⟨i, ao, co⟩ w1 ⟨hi, hS1⟩
 clear hS
 have hlen := andR_len m (l.take i)
 have hlt := List.length_take_le i l
 refine WP.seq ?_
 refine WP.seq ?_
 refine WP.region rfl ?_
 refine WO.val (run_move rfl) rfl rfl rfl ?_
 refine WO.val (run_move rfl) rfl rfl rfl ?_
 refine WO.val (run_len rfl Try.underlying22 rfl) rfl rfl rfl ?_
 refine WO.val (run_lss rfl rfl) rfl rfl rfl ?_
 refine WO.nil ?_
 refine NX.go ?_
 refine WP.condP rfl (fun g10 => ?_) (fun g10 => ?_)
 ·
  refine WP.skip ?_
  refine NX.go ?_
  refine WP.seq ?_
  refine WP.block ?_
  refine WP.seq ?_
  refine WP.region rfl ?_
  refine WO.val (run_move rfl) rfl rfl rfl ?_
  refine WO.val (run_move rfl) rfl rfl rfl ?_
  refine WO.val (run_move rfl) rfl rfl rfl ?_
  obtain ⟨x, hx⟩ : ∃ x, l[i]? = some x := ⟨_, List.getElem?_eq_getElem (by omega)⟩
  refine WO.val (run_indexAddr (q := adr a i) Try.underlying22 Ty.sz3 rfl rfl (by omega) (by omega) ((hX (hS1.focus 0 rfl)).2.1 (by omega)) (by simp)) rfl rfl rfl ?_
  refine WO.val (run_load Ty.ag3 rfl ((hX (hS1.focus 0 rfl)).cell (ri_get hx))) rfl rfl rfl ?_
  have hS2 := hS1.permT [1, 0, 0] (L' := Y :: X :: own ao ((andR m (l.take i)).length) co 3 1 (ri (andR m (l.take i))) :: L) rfl
  clear hS1
  refine WO.call rfl rfl Ty.hd13 rfl (has_spec hY x (by omega) hS2) (fun v4 w3 pv4 => ?_)
  obtain ⟨rfl, hS3⟩ := pv4
  clear hS2
  refine WO.nil ?_
  refine NX.go ?_
  refine WP.meet (α := Option Addr × Nat) (fun x => match x with | ⟨a1, c1⟩ => [(0, Value.slice a l.length cap), (1, Value.slice b m.length cap2), (5, Value.slice a1 ((andR m (l.take (i + 1))).length) c1), (6, Value.int .i64 (i : Int))]) (fun x w => match x with | ⟨a1, c1⟩ => St B (X :: Y :: own a1 ((andR m (l.take (i + 1))).length) c1 3 1 (ri (andR m (l.take (i + 1)))) :: L) w) ?_ (fun K5 => ?_)
  ·
   rintro ⟨a1, c1⟩ w6 hS6
   clear hS3
   refine NX.blk ?_
   refine NX.go ?_
   refine WP.region rfl ?_
   refine WO.val (run_move rfl) rfl rfl rfl ?_
   refine WO.val (run_add rfl rfl (IntWalk.i64_in _ (by omega))) rfl rfl rfl ?_
   refine WO.val (run_assign rfl) rfl rfl rfl ?_
   refine WO.nil ?_
   exact NX.again (i + 1, a1, c1) ⟨by omega, hS6⟩ (by show l.length - (i + 1) < l.length - i; omega) (Sub.cons rfl (Sub.cons rfl (Sub.consE rfl (by first | rfl | (congr 1; omega) | (simp; done) | (simp; omega)) (Sub.consE rfl (by congr 1) (Sub.nil _)))))
  ·
   refine WP.condP rfl (fun g18 => ?_) (fun g18 => ?_)
   ·
    refine WP.region rfl ?_
    refine WO.val (run_move rfl) rfl rfl rfl ?_
    refine WO.val (run_move rfl) rfl rfl rfl ?_
    refine WO.val (run_move rfl) rfl rfl rfl ?_
    refine WO.val (run_indexAddr (q := adr a i) Try.underlying22 Ty.sz3 rfl rfl (by omega) (by omega) ((hX (hS3.focus 1 rfl)).2.1 (by omega)) (by simp)) rfl rfl rfl ?_
    refine WO.val (run_load Ty.ag3 rfl ((hX (hS3.focus 1 rfl)).cell (ri_get hx))) rfl rfl rfl ?_
    have hS9 := hS3.permT [2, 0, 0] (L' := own ao ((andR m (l.take i)).length) co 3 1 (ri (andR m (l.take i))) :: Y :: X :: L) rfl
    clear hS3
    refine WO.call rfl rfl Ty.hd14 rfl (put_spec (l := andR m (l.take i)) x (by omega) hS9) (fun v11 w10 pv11 => ?_)
    obtain ⟨a7, c8, rfl, hS10⟩ := pv11
    clear hS9
    refine WO.val (run_assign rfl) rfl rfl rfl ?_
    refine WO.nil ?_
    have hst := andR_stepT hx g18
    have hq := (hS10.permT [0, 1, 0] (L' := own a7 ((putF (andR m (l.take i)) x).length) c8 3 1 (ri (putF (andR m (l.take i)) x)) :: X :: Y :: L) rfl)
    rw [← hst] at hq
    exact K5 (a7, c8) _ _ (hq.permT [1, 1, 0] rfl) (Sub.cons rfl (Sub.cons rfl (Sub.consE rfl (by rw [hst]) (Sub.cons rfl (Sub.nil _)))))
   ·
    refine WP.skip ?_
    have hst := andR_stepF hx g18
    have hq := (hS3.permT [2, 1, 0] (L' := own ao ((andR m (l.take i)).length) co 3 1 (ri (andR m (l.take i))) :: X :: Y :: L) rfl)
    rw [← hst] at hq
    exact K5 (ao, co) _ _ (hq.permT [1, 1, 0] rfl) (Sub.cons rfl (Sub.cons rfl (Sub.consE rfl (by rw [hst]) (Sub.cons rfl (Sub.nil _)))))
 ·
  refine WP.exit ?_
  refine NX.thenExit ?_
  refine NX.thenExit ?_
  refine NX.blkExit ?_
  refine NX.go ?_
  refine WP.seq ?_
  refine WP.region rfl ?_
  refine WO.val (run_move rfl) rfl rfl rfl ?_
  refine WO.val (run_assign rfl) rfl rfl rfl ?_
  refine WO.nil ?_
  refine NX.go ?_
  refine WP.ret ?_
  refine NX.done (l := [.tmp 4]) rfl rfl ?_
  refine ⟨ao, co, congrArg (fun z => Value.slice ao z co) (by rw [List.take_of_length_le (by omega)]), ?_⟩
  have hq := (hS1.permT [2, 0, 0] (L' := own ao ((andR m (l.take i)).length) co 3 1 (ri (andR m (l.take i))) :: X :: Y :: L) rfl)
  rw [List.take_of_length_le (by omega)] at hq
  exact hq

theorem lessR_stepT {m l : List Int} {i : Nat} {x : Int} (h : l[i]? = some x) (hm : x ∈ m) : lessR m (l.take (i + 1)) = lessR m (l.take i) := by
  unfold lessR; rw [fold_take _ _ h, if_pos hm]
theorem lessR_stepF {m l : List Int} {i : Nat} {x : Int} (h : l[i]? = some x) (hm : ¬ x ∈ m) : lessR m (l.take (i + 1)) = putF (lessR m (l.take i)) x := by
  unfold lessR; rw [fold_take _ _ h, if_neg hm]
theorem rLess_spec {B w : World} {L : List HP} {X Y : HP} {a b : Option Addr} {cap cap2 : Nat} {l m : List Int} (hX : ∀ {L : List HP} {w : World}, St B (X :: L) w → Rd w a l.length 1 (ri l)) (hY : ∀ {L : List HP} {w : World}, St B (Y :: L) w → Rd w b m.length 1 (ri m)) (hb : l.length ≤ 1000000) (hb2 : m.length ≤ 1000000) (hS : St B (X :: Y :: L) w) : Does Try.prog 10 [Value.slice a l.length cap, Value.slice b m.length cap2] w (fun v w1 => ∃ a1 c1, v = .slice a1 (lessR m l).length c1 ∧ St B (own a1 (lessR m l).length c1 3 1 (ri (lessR m l)) :: X :: Y :: L) w1) := by
 refine enter (n := 27) Try.func10 rfl rfl [Value.slice a l.length cap, Value.slice b m.length cap2] rfl ?_
 refine WP.seq ?_
 refine WP.region rfl ?_
 refine WO.val (run_assign rfl) rfl rfl rfl ?_
 refine WO.nil ?_
 refine NX.go ?_
 refine WP.seq ?_
 refine WP.region rfl ?_
 refine WO.val (run_assign rfl) rfl rfl rfl ?_
 refine WO.nil ?_
 refine NX.go ?_
 refine WP.seq ?_
 refine WP.seq ?_
 refine WP.region rfl ?_
 refine WO.val (run_assign rfl) rfl rfl rfl ?_
 refine WO.nil ?_
 refine NX.go ?_
 refine WP.block ?_
 have hSq := (hS.own_nil 3 1).permT [1, 1, 0] (L' := X :: Y :: own none 0 0 3 1 [] :: L) rfl
 refine WP.loop (α := Nat × Option Addr × Nat) (fun x => match x with | ⟨i, ao, co⟩ => [(0, Value.slice a l.length cap), (1, Value.slice b m.length cap2), (5, Value.slice ao ((lessR m (l.take i)).length) co), (6, Value.int .i64 (i : Int))]) (fun x w => match x with | ⟨i, ao, co⟩ => (i ≤ l.length) ∧ St B (X :: Y :: own ao ((lessR m (l.take i)).length) co 3 1 (ri (lessR m (l.take i))) :: L) w) (fun x => match x with | ⟨i, ao, co⟩ => l.length - i) (0, none, 0) ⟨by omega, hSq⟩ (Sub.cons rfl (Sub.cons rfl (Sub.consE rfl (by first | rfl | first | rfl | (congr 1; omega) | (simp; done) | (simp; omega)) (Sub.consE rfl (by first | rfl | first | rfl | (congr 1; omega) | (simp; done) | (simp; omega)) (Sub.nil _))))) ?_
 rintro ⟨i, ao, co⟩ w1 ⟨hi, hS1⟩
 clear hS
 have hlen := lessR_len m (l.take i)
 have hlt := List.length_take_le i l
 refine WP.seq ?_
 refine WP.seq ?_
 refine WP.region rfl ?_
 refine WO.val (run_move rfl) rfl rfl rfl ?_
 refine WO.val (run_move rfl) rfl rfl rfl ?_
 refine WO.val (run_len rfl Try.underlying22 rfl) rfl rfl rfl ?_
 refine WO.val (run_lss rfl rfl) rfl rfl rfl ?_
 refine WO.nil ?_
 refine NX.go ?_
 refine WP.condP rfl (fun g10 => ?_) (fun g10 => ?_)
 ·
  refine WP.skip ?_
  refine NX.go ?_
  refine WP.seq ?_
  refine WP.block ?_
  refine WP.seq ?_
  refine WP.region rfl ?_
  refine WO.val (run_move rfl) rfl rfl rfl ?_
  refine WO.val (run_move rfl) rfl rfl rfl ?_
  refine WO.val (run_move rfl) rfl rfl rfl ?_
  obtain ⟨x, hx⟩ : ∃ x, l[i]? = some x := ⟨_, List.getElem?_eq_getElem (by omega)⟩
  refine WO.val (run_indexAddr (q := adr a i) Try.underlying22 Ty.sz3 rfl rfl (by omega) (by omega) ((hX (hS1.focus 0 rfl)).2.1 (by omega)) (by simp)) rfl rfl rfl ?_
  refine WO.val (run_load Ty.ag3 rfl ((hX (hS1.focus 0 rfl)).cell (ri_get hx))) rfl rfl rfl ?_
  have hS2 := hS1.permT [1, 0, 0] (L' := Y :: X :: own ao ((lessR m (l.take i)).length) co 3 1 (ri (lessR m (l.take i))) :: L) rfl
  clear hS1
  refine WO.call rfl rfl Ty.hd13 rfl (has_spec hY x (by omega) hS2) (fun v4 w3 pv4 => ?_)
  obtain ⟨rfl, hS3⟩ := pv4
  clear hS2
  refine WO.val (run_notP rfl) rfl rfl rfl ?_
  refine WO.nil ?_
  refine NX.go ?_
  refine WP.meet (α := Option Addr × Nat) (fun x => match x with | ⟨a1, c1⟩ => [(0, Value.slice a l.length cap), (1, Value.slice b m.length cap2), (5, Value.slice a1 ((lessR m (l.take (i + 1))).length) c1), (6, Value.int .i64 (i : Int))]) (fun x w => match x with | ⟨a1, c1⟩ => St B (X :: Y :: own a1 ((lessR m (l.take (i + 1))).length) c1 3 1 (ri (lessR m (l.take (i + 1)))) :: L) w) ?_ (fun K5 => ?_)
  ·
   rintro ⟨a1, c1⟩ w6 hS6
   clear hS3
   refine NX.blk ?_
   refine NX.go ?_
   refine WP.region rfl ?_
   refine WO.val (run_move rfl) rfl rfl rfl ?_
   refine WO.val (run_add rfl rfl (IntWalk.i64_in _ (by omega))) rfl rfl rfl ?_
   refine WO.val (run_assign rfl) rfl rfl rfl ?_
   refine WO.nil ?_
   exact NX.again (i + 1, a1, c1) ⟨by omega, hS6⟩ (by show l.length - (i + 1) < l.length - i; omega) (Sub.cons rfl (Sub.cons rfl (Sub.consE rfl (by first | rfl | (congr 1; omega) | (simp; done) | (simp; omega)) (Sub.consE rfl (by congr 1) (Sub.nil _)))))
  ·
   refine WP.condP rfl (fun g19 => ?_) (fun g19 => ?_)
   ·
    refine WP.region rfl ?_
    refine WO.val (run_move rfl) rfl rfl rfl ?_
    refine WO.val (run_move rfl) rfl rfl rfl ?_
    refine WO.val (run_move rfl) rfl rfl rfl ?_
    refine WO.val (run_indexAddr (q := adr a i) Try.underlying22 Ty.sz3 rfl rfl (by omega) (by omega) ((hX (hS3.focus 1 rfl)).2.1 (by omega)) (by simp)) rfl rfl rfl ?_
    refine WO.val (run_load Ty.ag3 rfl ((hX (hS3.focus 1 rfl)).cell (ri_get hx))) rfl rfl rfl ?_
    have hS9 := hS3.permT [2, 0, 0] (L' := own ao ((lessR m (l.take i)).length) co 3 1 (ri (lessR m (l.take i))) :: Y :: X :: L) rfl
    clear hS3
    refine WO.call rfl rfl Ty.hd14 rfl (put_spec (l := lessR m (l.take i)) x (by omega) hS9) (fun v11 w10 pv11 => ?_)
    obtain ⟨a7, c8, rfl, hS10⟩ := pv11
    clear hS9
    refine WO.val (run_assign rfl) rfl rfl rfl ?_
    refine WO.nil ?_
    have hst := lessR_stepF hx g19
    have hq := (hS10.permT [0, 1, 0] (L' := own a7 ((putF (lessR m (l.take i)) x).length) c8 3 1 (ri (putF (lessR m (l.take i)) x)) :: X :: Y :: L) rfl)
    rw [← hst] at hq
    exact K5 (a7, c8) _ _ (hq.permT [1, 1, 0] rfl) (Sub.cons rfl (Sub.cons rfl (Sub.consE rfl (by rw [hst]) (Sub.cons rfl (Sub.nil _)))))
   ·
    refine WP.skip ?_
    have hst := lessR_stepT hx (Decidable.of_not_not g19)
    have hq := (hS3.permT [2, 1, 0] (L' := own ao ((lessR m (l.take i)).length) co 3 1 (ri (lessR m (l.take i))) :: X :: Y :: L) rfl)
    rw [← hst] at hq
    exact K5 (ao, co) _ _ (hq.permT [1, 1, 0] rfl) (Sub.cons rfl (Sub.cons rfl (Sub.consE rfl (by rw [hst]) (Sub.cons rfl (Sub.nil _)))))
 ·
  refine WP.exit ?_
  refine NX.thenExit ?_
  refine NX.thenExit ?_
  refine NX.blkExit ?_
  refine NX.go ?_
  refine WP.seq ?_
  refine WP.region rfl ?_
  refine WO.val (run_move rfl) rfl rfl rfl ?_
  refine WO.val (run_assign rfl) rfl rfl rfl ?_
  refine WO.nil ?_
  refine NX.go ?_
  refine WP.ret ?_
  refine NX.done (l := [.tmp 4]) rfl rfl ?_
  refine ⟨ao, co, congrArg (fun z => Value.slice ao z co) (by rw [List.take_of_length_le (by omega)]), ?_⟩
  have hq := (hS1.permT [2, 0, 0] (L' := own ao ((lessR m (l.take i)).length) co 3 1 (ri (lessR m (l.take i))) :: X :: Y :: L) rfl)
  rw [List.take_of_length_le (by omega)] at hq
  exact hq
end Go.Proofs.Ytogidmceomlkeaa.SL
