/- Blocks that follow one another: the reference. -/
import Derived.Test.YtidoidoelgfnaaaGreatDoorKk1M
namespace Go.Proofs.YtidoidoelgfnaaaGreatDoor.SL
open Go.RowKit Go.Proofs.YtidoidoelgfnaaaGreatDoor
open Go.Proofs.YtidoidoelgfnaaaGreatDoorW.PrintLast (rtab opsOf)
set_option linter.unusedVariables false
set_option linter.unusedSimpArgs false

theorem rd_takeB {B : World} {X : HP} {a : Option Addr} {i : Nat} {bs : List BlkV} (hX : ∀ {L : List HP} {w : World}, St B (X :: L) w → Rd w a bs.length 4 (bs.flatMap blc)) (hi : i ≤ bs.length) : ∀ {L : List HP} {w : World}, St B (X :: L) w → Rd w a (bs.take i).length 4 ((bs.take i).flatMap blc) := fun {L w} h => by
  have := (hX h).take (m := i) hi
  rw [flat_take blc_len] at this
  rw [List.length_take, Nat.min_eq_left hi]; exact this
theorem checkB_to {b : BlkV} (h : checkB b = 0) : 1 ≤ b.first ∧ b.first ≤ b.to ∧ b.to ≤ 99999999 := by
  unfold checkB at h
  split at h
  · omega
  · omega
theorem wsum_ge : ∀ {l : List MRow}, (∀ r ∈ l, chk r.lb.l = true) → 10 * l.length + rsum l ≤ wsum l
  | [], _ => by simp [rsum, wsum]
  | r :: l, h => by
    have h1 := (chk_sz (h r (by simp))).2.1
    have h2 := wsum_ge (l := l) fun q hq => h q (by simp [hq])
    rw [List.length_cons, rsum, wsum]; omega
theorem tots {bs : List BlkV} (h : ∀ b ∈ bs, checkB b = 0) (hw : ∀ b ∈ bs, wgt b ≤ 1999) : rtot bs ≤ 200 * bs.length ∧ ptot bs ≤ 2000 * bs.length ∧ dtot bs ≤ 2000 * bs.length := by
  induction bs with
  | nil => simp [rtot, ptot, dtot]
  | cons b l ih =>
    have h1 := wsum_ge (checkB_chk (h b (by simp)))
    have h2 := hw b (by simp)
    have h3 := ih (fun q hq => h q (by simp [hq])) (fun q hq => hw q (by simp [hq]))
    unfold wgt at h2
    rw [rtot, ptot, dtot, List.length_cons]; omega
theorem rfollow_spec_t10 : rtab .any (opsOf Tryz.f13 10) = (true, [([], []), ([0], [0]), ([1], [1]), ([2], [2]), ([2], [2]), ([3, 4, 2], [2, 3, 4]), ([5, 2], [2, 5]), ([6, 2], [2, 6]), ([7, 2], [2, 7]), ([2, 8], [2, 8]), ([9, 2], [9]), ([10], [10]), ([11, 10], [10, 11]), ([12, 10, 10], [10, 12]), ([13], [13]), ([13], [13]), ([14, 15, 13], [13, 14, 15]), ([16, 13], [13, 16]), ([17, 13], [13, 17]), ([13], [13]), ([13], [13]), ([20, 13], [13, 20]), ([19, 21, 13], [13, 19, 21]), ([22, 13], [13, 22]), ([23, 13], [13, 23]), ([24, 13], [13, 24]), ([18, 25, 13], [13, 18, 25]), ([13, 26, 10], [10, 13, 26]), ([10, 27], [10, 27])]) := by kernel_rfl
theorem rfollow_spec_t18 : rtab .any (opsOf Tryz.f13 18) = (true, [([], []), ([0], [0]), ([1], [1]), ([2, 1], [1, 2]), ([3, 1], [1, 3]), ([4, 1], [1, 4]), ([1, 5], [1, 5]), ([6, 1], [6]), ([7], [7]), ([8, 7], [7, 8]), ([9, 7], [7, 9]), ([10, 7], [7, 10]), ([11, 7], [7, 11]), ([7], [7]), ([7], [7]), ([13, 14, 7], [7, 13, 14]), ([15, 7], [7, 15]), ([16, 7], [7, 16]), ([12, 17, 7], [7, 12, 17]), ([7, 18], [7, 18])]) := by kernel_rfl
theorem rfollow_spec {B w : World} {L : List HP} {X : HP} {a : Option Addr} {cap : Nat} {bs : List BlkV} (hX : ∀ {L : List HP} {w : World}, St B (X :: L) w → Rd w a bs.length 4 (bs.flatMap blc)) (hbz : ∀ b ∈ bs, MzB b) (hcp : bs.length ≤ cap) (hw8 : bs.length ≤ 8) (hwg : ∀ b ∈ bs, wgt b ≤ 1999) (hS : St B (X :: allA blA bs :: L) w) : Does Tryz.prog 13 [Value.slice a bs.length cap] w (fun v w1 => ∃ e : Int, v = .int .i64 e ∧ (e = 0 → ∀ b ∈ bs, checkB b = 0) ∧ St B (X :: allA blA bs :: L) w1) := by
 refine enter (n := 109) Tryz.func13 rfl rfl [Value.slice a bs.length cap] rfl ?_
 refine WP.seq (WP.region rfl ?_)
 refine WO.asg rfl rfl ?_
 refine WO.nil (NX.go (WP.seq (WP.seq (WP.region rfl ?_))))
 refine WO.asg rfl rfl ?_
 refine WO.nil (NX.go (WP.block ?_))
 refine WP.loop (α := Nat) (fun x => match x with | i => [(0, Value.slice a bs.length cap), (3, Value.int .i64 (i : Int))]) (fun x w => match x with | i => (i ≤ bs.length ∧ ∀ j b, j < i → bs[j]? = some b → checkB b = 0) ∧ St B (X :: allA blA bs :: L) w) (fun x => match x with | i => bs.length - i) 0 ⟨⟨Nat.zero_le _, fun j b h => absurd h (by omega)⟩, hS⟩ (Sub.cons rfl (Sub.consE rfl (by first | rfl | first | rfl | (congr 1; omega) | (simp; done) | (simp; omega)) (Sub.nil _))) ?_
 rintro i w1 ⟨⟨hi, hall⟩, hS1⟩
 clear hS
 refine WP.seq (WP.seq (WP.region rfl ?_))
 refine WO.mv rfl rfl ?_
 refine WO.mv rfl rfl ?_
 refine WO.val (run_len rfl Tryz.underlying22 rfl) rfl rfl rfl ?_
 refine WO.val (run_lss rfl rfl) rfl rfl rfl ?_
 refine WO.nil (NX.go ?_)
 refine WP.condP rfl (fun g14 => ?_) (fun g14 => ?_)
 ·
  refine WP.skip (NX.go (WP.seq (WP.block (WP.seq ?_))))
  obtain ⟨b1, hb1⟩ : ∃ qq, bs[i]? = some qq := ⟨_, List.getElem?_eq_getElem (by omega)⟩
  refine WP.region rfl ?_
  refine WO.mv rfl rfl ?_
  refine WO.mv rfl rfl ?_
  refine WO.val (run_indexAddr (q := adr a (i * 4)) Tryz.underlying22 Ty.sz51 rfl rfl (by omega) (by omega) ((hX (hS1.focus 0 rfl)).2.1 (by omega)) rfl) rfl rfl rfl ?_
  refine WO.val (run_loadAgg (vs := [Value.int .i64 b1.first, Value.int .i64 b1.to, Value.slice b1.rs.a b1.rs.l.length b1.rs.cap, Value.slice b1.ds.a b1.ds.l.length b1.ds.cap]) Ty.ag51 Ty.sz51 rfl ((hX (hS1.focus 0 rfl)).cells (by rw [flat_len blc_len]; omega) (flat_part blc_len hb1)).1 ((hX (hS1.focus 0 rfl)).cells (by rw [flat_len blc_len]; omega) (flat_part blc_len hb1)).2) rfl rfl rfl ?_
  have hS2 := allA_get blA_pers (List.mem_of_getElem? hb1) (hS1.permT [1, 0] (L' := allA blA bs :: X :: L) rfl)
  clear hS1
  refine WO.call rfl rfl Ty.hd47 rfl (r15chk_spec b1 (hbz b1 (List.mem_of_getElem? hb1)) hS2) (fun v4 w3 pv4 => ?_)
  obtain ⟨rfl, hS3⟩ := pv4
  clear hS2
  refine WO.asg rfl rfl ?_
  refine WO.nil (NX.go (WP.seq (WP.region rfl ?_)))
  refine WO.mv rfl rfl ?_
  refine WO.val (run_neq rfl rfl) rfl rfl rfl ?_
  refine WO.nil (NX.go ?_)
  refine WP.condP rfl (fun g23 => ?_) (fun g23 => ?_)
  ·
   refine WP.seq (WP.region rfl ?_)
   refine WO.mv rfl rfl ?_
   refine WO.asg rfl rfl ?_
   refine WO.nil (NX.go (WP.ret (NX.blkRet (NX.thenRet (NX.thenRet (NX.blkRet (NX.thenRet ?_)))))))
   refine NX.done (l := [.tmp 2]) rfl rfl ?_
   exact ⟨_, rfl, fun h => absurd h g23, (hS3.permT [0, 1, 0] (L' := blA b1 :: X :: allA blA bs :: L) rfl).drop⟩
  ·
   refine WP.skip (NX.blk (NX.go (WP.region rfl ?_)))
   refine WO.mv rfl rfl ?_
   refine WO.val (run_add rfl rfl (IntWalk.i64_in _ (by omega))) rfl rfl rfl ?_
   refine WO.asg rfl rfl ?_
   refine WO.nil ?_
   exact NX.again (i + 1) ⟨⟨by omega, upto_next hall hb1 (by simpa using g23)⟩, (hS3.permT [0, 1, 0] (L' := blA b1 :: X :: allA blA bs :: L) rfl).drop⟩ (by show bs.length - (i + 1) < bs.length - i; omega) (Sub.cons rfl (Sub.consE rfl (by congr 1) (Sub.nil _)))
 ·
  refine WP.exit (NX.thenExit (NX.thenExit ?_))
  refine NX.blkExit ?_
  refine NX.go (WP.seq (WP.seq ?_))
  have hchk : ∀ b ∈ bs, checkB b = 0 := fun b hb => by obtain ⟨j, hj⟩ := List.mem_iff_getElem?.1 hb; exact hall j b (by have := (List.getElem?_eq_some_iff.1 hj).1; omega) hj
  refine WP.region rfl ?_
  refine WO.asg rfl rfl ?_
  refine WO.nil (NX.go (WP.block ?_))
  refine WP.loop (α := Nat) (fun x => match x with | i => [(0, Value.slice a bs.length cap), (5, Value.int .i64 (i : Int))]) (fun x w => match x with | i => (i ≤ bs.length) ∧ St B (X :: allA blA bs :: L) w) (fun x => match x with | i => bs.length - i) 0 ⟨Nat.zero_le _, hS1⟩ (Sub.cons rfl (Sub.consE rfl (by first | rfl | first | rfl | (congr 1; omega) | (simp; done) | (simp; omega)) (Sub.nil _))) ?_
  rintro i w5 ⟨hi, hS5⟩
  clear hS1
  refine WP.seq (WP.seq (WP.region rfl ?_))
  refine WO.mv rfl rfl ?_
  refine WO.mv rfl rfl ?_
  refine WO.val (run_len rfl Tryz.underlying22 rfl) rfl rfl rfl ?_
  refine WO.val (run_lss rfl rfl) rfl rfl rfl ?_
  refine WO.nil (NX.go ?_)
  refine WP.condP rfl (fun g28 => ?_) (fun g28 => ?_)
  ·
   refine WP.skip (NX.go (WP.seq (WP.block (WP.seq (WP.seq ?_)))))
   obtain ⟨b1, hb1⟩ : ∃ qq, bs[i]? = some qq := ⟨_, List.getElem?_eq_getElem (by omega)⟩
   have hsa : a.isSome = true := rd_isSome ((hX (hS5.focus 0 rfl))) (by omega)
   have hqe : 0 < i → ∃ q, bs[i - 1]? = some q := fun h => ⟨_, List.getElem?_eq_getElem (by omega)⟩
   refine WD.start (fun w => Rd w a bs.length 4 (bs.flatMap blc)) [] (bt 29 0) Ty.mo rfl (by kernel_rfl) hS5 (fun _ h => (hX (h.focus 0 rfl))) (fun w6 hS6 s7 => ?_)
   clear hS5
   refine WD.pure (i := 0) rfollow_spec_t10 (bt 29 1) rfl rfl rfl (by kernel_rfl) (PQ.then (PQ.then (PQ.blk (PQ.then (PQ.then (PQ.blk (PQ.then PQ.body))))))) rfl (fun w => run_move rfl) ?_
   refine WD.pure (i := 1) rfollow_spec_t10 (bt 29 3) rfl rfl rfl (by kernel_rfl) (PQ.then (PQ.then (PQ.blk (PQ.then (PQ.then (PQ.blk (PQ.then PQ.body))))))) rfl (fun w => run_eql rfl rfl) ?_
   refine WD.pure (i := 2) rfollow_spec_t10 (bt 29 7) rfl rfl rfl (by kernel_rfl) (PQ.then (PQ.then (PQ.blk (PQ.then (PQ.then (PQ.blk (PQ.then PQ.body))))))) rfl (fun w => run_move rfl) ?_
   by_cases g33 : (i : Int) = 0
   ·
    refine WD.pureOn (i := 3) rfollow_spec_t10 (bt 29 15) rfl rfl rfl (decide_eq_true g33) (by kernel_rfl) (PQ.then (PQ.then (PQ.blk (PQ.then (PQ.then (PQ.blk (PQ.then PQ.body))))))) rfl (fun w => run_move rfl) ?_
    refine WD.pureOn (i := 4) rfollow_spec_t10 (bt 29 31) rfl rfl rfl (decide_eq_true g33) (by kernel_rfl) (PQ.then (PQ.then (PQ.blk (PQ.then (PQ.then (PQ.blk (PQ.then PQ.body))))))) rfl (fun w => run_move rfl) ?_
    refine WD.takeOn (i := 5) rfollow_spec_t10 (bt 29 63) s7 rfl rfl rfl (decide_eq_true g33) (by kernel_rfl) (PQ.then (PQ.then (PQ.blk (PQ.then (PQ.then (PQ.blk (PQ.then PQ.body))))))) rfl (fun w hs => run_indexAddr (q := adr a (i * 4)) Tryz.underlying22 Ty.sz51 rfl rfl (by omega) (by omega) ((hs).2.1 (by omega)) rfl) ?_
    refine WD.pureOn (i := 6) rfollow_spec_t10 (bt 29 127) rfl rfl rfl (decide_eq_true g33) (by kernel_rfl) (PQ.then (PQ.then (PQ.blk (PQ.then (PQ.then (PQ.blk (PQ.then PQ.body))))))) rfl (fun w => run_fieldAddr (q := (adr a (i * 4 + 0))) (show fieldB Tryz.prog 51 0 = some 0 from by kernel_rfl) rfl (adr_add _ (by assumption) _ _)) ?_
    refine WD.takeOn (i := 7) rfollow_spec_t10 (bt 29 255) s7 rfl rfl rfl (decide_eq_true g33) (by kernel_rfl) (PQ.then (PQ.then (PQ.blk (PQ.then (PQ.then (PQ.blk (PQ.then PQ.body))))))) rfl (fun w hs => run_load Ty.ag3 rfl ((hs).cell ((flat_get blc_len hb1 (j := 0) (by decide)).trans rfl))) ?_
    refine WD.pureOn (i := 8) rfollow_spec_t10 (bt 29 511) rfl rfl rfl (decide_eq_true g33) (by kernel_rfl) (PQ.then (PQ.then (PQ.blk (PQ.then (PQ.then (PQ.blk (PQ.then PQ.body))))))) rfl (fun w => run_neq rfl rfl) ?_
    refine WD.pure (i := 9) rfollow_spec_t10 (bt 29 1023) rfl rfl rfl (by kernel_rfl) (PQ.then (PQ.then (PQ.blk (PQ.then (PQ.then (PQ.blk (PQ.then PQ.body))))))) rfl (fun w => run_pickT rfl (decide_eq_true g33) rfl) ?_
    refine WD.pure (i := 10) rfollow_spec_t10 (bt 29 2047) rfl rfl rfl (by kernel_rfl) (PQ.then (PQ.then (PQ.blk (PQ.then (PQ.then (PQ.blk (PQ.then PQ.body))))))) rfl (fun w => run_move rfl) ?_
    by_cases g41 : ¬ b1.first = 1
    ·
     refine WD.off (i := 11) rfollow_spec_t10 (bt 29 4095) rfl rfl rfl (decide_eq_true g41) (by kernel_rfl) (PQ.then (PQ.then (PQ.blk (PQ.then (PQ.then (PQ.blk (PQ.then PQ.body))))))) rfl ?_
     refine WD.off (i := 12) rfollow_spec_t10 (bt 29 8191) rfl rfl rfl (decide_eq_true g41) (by kernel_rfl) (PQ.then (PQ.then (PQ.blk (PQ.then (PQ.then (PQ.blk (PQ.then PQ.body))))))) rfl ?_
     refine WD.off (i := 13) rfollow_spec_t10 (bt 29 16383) rfl rfl rfl (decide_eq_true g41) (by kernel_rfl) (PQ.then (PQ.then (PQ.blk (PQ.then (PQ.then (PQ.blk (PQ.then PQ.body))))))) rfl ?_
     refine WD.offU (i := 14) rfollow_spec_t10 (bt 29 32767) rfl rfl rfl (by kernel_rfl) (PQ.then (PQ.then (PQ.blk (PQ.then (PQ.then (PQ.blk (PQ.then PQ.body))))))) rfl ?_
     refine WD.offU (i := 15) rfollow_spec_t10 (bt 29 65535) rfl rfl rfl (by kernel_rfl) (PQ.then (PQ.then (PQ.blk (PQ.then (PQ.then (PQ.blk (PQ.then PQ.body))))))) rfl ?_
     refine WD.offU (i := 16) rfollow_spec_t10 (bt 29 131071) rfl rfl rfl (by kernel_rfl) (PQ.then (PQ.then (PQ.blk (PQ.then (PQ.then (PQ.blk (PQ.then PQ.body))))))) rfl ?_
     refine WD.offU (i := 17) rfollow_spec_t10 (bt 29 262143) rfl rfl rfl (by kernel_rfl) (PQ.then (PQ.then (PQ.blk (PQ.then (PQ.then (PQ.blk (PQ.then PQ.body))))))) rfl ?_
     refine WD.offU (i := 18) rfollow_spec_t10 (bt 29 524287) rfl rfl rfl (by kernel_rfl) (PQ.then (PQ.then (PQ.blk (PQ.then (PQ.then (PQ.blk (PQ.then PQ.body))))))) rfl ?_
     refine WD.offU (i := 19) rfollow_spec_t10 (bt 29 1048575) rfl rfl rfl (by kernel_rfl) (PQ.then (PQ.then (PQ.blk (PQ.then (PQ.then (PQ.blk (PQ.then PQ.body))))))) rfl ?_
     refine WD.offU (i := 20) rfollow_spec_t10 (bt 29 2097151) rfl rfl rfl (by kernel_rfl) (PQ.then (PQ.then (PQ.blk (PQ.then (PQ.then (PQ.blk (PQ.then PQ.body))))))) rfl ?_
     refine WD.offU (i := 21) rfollow_spec_t10 (bt 29 4194303) rfl rfl rfl (by kernel_rfl) (PQ.then (PQ.then (PQ.blk (PQ.then (PQ.then (PQ.blk (PQ.then PQ.body))))))) rfl ?_
     refine WD.offU (i := 22) rfollow_spec_t10 (bt 29 8388607) rfl rfl rfl (by kernel_rfl) (PQ.then (PQ.then (PQ.blk (PQ.then (PQ.then (PQ.blk (PQ.then PQ.body))))))) rfl ?_
     refine WD.offU (i := 23) rfollow_spec_t10 (bt 29 16777215) rfl rfl rfl (by kernel_rfl) (PQ.then (PQ.then (PQ.blk (PQ.then (PQ.then (PQ.blk (PQ.then PQ.body))))))) rfl ?_
     refine WD.offU (i := 24) rfollow_spec_t10 (bt 29 33554431) rfl rfl rfl (by kernel_rfl) (PQ.then (PQ.then (PQ.blk (PQ.then (PQ.then (PQ.blk (PQ.then PQ.body))))))) rfl ?_
     refine WD.offU (i := 25) rfollow_spec_t10 (bt 29 67108863) rfl rfl rfl (by kernel_rfl) (PQ.then (PQ.then (PQ.blk (PQ.then (PQ.then (PQ.blk (PQ.then PQ.body))))))) rfl ?_
     refine WD.offU (i := 26) rfollow_spec_t10 (bt 29 134217727) rfl rfl rfl (by kernel_rfl) (PQ.then (PQ.then (PQ.blk (PQ.then (PQ.then (PQ.blk (PQ.then PQ.body))))))) rfl ?_
     refine WD.off (i := 27) rfollow_spec_t10 (bt 29 268435455) rfl rfl rfl (decide_eq_true g41) (by kernel_rfl) (PQ.then (PQ.then (PQ.blk (PQ.then (PQ.then (PQ.blk (PQ.then PQ.body))))))) rfl ?_
     refine WD.pure (i := 28) rfollow_spec_t10 (bt 29 536870911) rfl rfl rfl (by kernel_rfl) (PQ.then (PQ.then (PQ.blk (PQ.then (PQ.then (PQ.blk (PQ.then PQ.body))))))) rfl (fun w => run_pickT rfl (decide_eq_true g41) rfl) ?_
     refine WD.done rfollow_spec_t10 (by kernel_rfl) ?_
     refine NX.go ?_
     refine WP.condT rfl rfl ?_
     refine WP.seq (WP.region rfl ?_)
     refine WO.asg rfl rfl ?_
     refine WO.nil (NX.go (WP.ret (NX.thenRet (NX.blkRet (NX.thenRet (NX.thenRet (NX.blkRet (NX.thenRet ?_))))))))
     refine NX.done (l := [.tmp 2]) rfl rfl ?_
     exact ⟨_, rfl, (fun h => by cases h), hS6⟩
    ·
     refine WD.pureOn (i := 11) rfollow_spec_t10 (bt 29 4095) rfl rfl rfl (decide_eq_false g41) (by kernel_rfl) (PQ.then (PQ.then (PQ.blk (PQ.then (PQ.then (PQ.blk (PQ.then PQ.body))))))) rfl (fun w => run_move rfl) ?_
     refine WD.pureOn (i := 12) rfollow_spec_t10 (bt 29 8191) rfl rfl rfl (decide_eq_false g41) (by kernel_rfl) (PQ.then (PQ.then (PQ.blk (PQ.then (PQ.then (PQ.blk (PQ.then PQ.body))))))) rfl (fun w => run_gtr rfl rfl) ?_
     refine WD.pureOn (i := 13) rfollow_spec_t10 (bt 29 16383) rfl rfl rfl (decide_eq_false g41) (by kernel_rfl) (PQ.then (PQ.then (PQ.blk (PQ.then (PQ.then (PQ.blk (PQ.then PQ.body))))))) rfl (fun w => run_move rfl) ?_
     by_cases g44 : 0 < (i : Int)
     ·
      obtain ⟨qb, hq1⟩ := hqe (by omega)
      have hqt := checkB_to (hchk qb (List.mem_of_getElem? hq1))
      refine WD.pureOn (i := 14) rfollow_spec_t10 (bt 29 32767) rfl rfl rfl (decide_eq_true g44) (by kernel_rfl) (PQ.then (PQ.then (PQ.blk (PQ.then (PQ.then (PQ.blk (PQ.then PQ.body))))))) rfl (fun w => run_move rfl) ?_
      refine WD.pureOn (i := 15) rfollow_spec_t10 (bt 29 65535) rfl rfl rfl (decide_eq_true g44) (by kernel_rfl) (PQ.then (PQ.then (PQ.blk (PQ.then (PQ.then (PQ.blk (PQ.then PQ.body))))))) rfl (fun w => run_move rfl) ?_
      refine WD.takeOn (i := 16) rfollow_spec_t10 (bt 29 131071) s7 rfl rfl rfl (decide_eq_true g44) (by kernel_rfl) (PQ.then (PQ.then (PQ.blk (PQ.then (PQ.then (PQ.blk (PQ.then PQ.body))))))) rfl (fun w hs => run_indexAddr (q := adr a (i * 4)) Tryz.underlying22 Ty.sz51 rfl rfl (by omega) (by omega) ((hs).2.1 (by omega)) rfl) ?_
      refine WD.pureOn (i := 17) rfollow_spec_t10 (bt 29 262143) rfl rfl rfl (decide_eq_true g44) (by kernel_rfl) (PQ.then (PQ.then (PQ.blk (PQ.then (PQ.then (PQ.blk (PQ.then PQ.body))))))) rfl (fun w => run_fieldAddr (q := (adr a (i * 4 + 0))) (show fieldB Tryz.prog 51 0 = some 0 from by kernel_rfl) rfl (adr_add _ (by assumption) _ _)) ?_
      refine WD.takeOn (i := 18) rfollow_spec_t10 (bt 29 524287) s7 rfl rfl rfl (decide_eq_true g44) (by kernel_rfl) (PQ.then (PQ.then (PQ.blk (PQ.then (PQ.then (PQ.blk (PQ.then PQ.body))))))) rfl (fun w hs => run_load Ty.ag3 rfl ((hs).cell ((flat_get blc_len hb1 (j := 0) (by decide)).trans rfl))) ?_
      refine WD.pureOn (i := 19) rfollow_spec_t10 (bt 29 1048575) rfl rfl rfl (decide_eq_true g44) (by kernel_rfl) (PQ.then (PQ.then (PQ.blk (PQ.then (PQ.then (PQ.blk (PQ.then PQ.body))))))) rfl (fun w => run_move rfl) ?_
      refine WD.pureOn (i := 20) rfollow_spec_t10 (bt 29 2097151) rfl rfl rfl (decide_eq_true g44) (by kernel_rfl) (PQ.then (PQ.then (PQ.blk (PQ.then (PQ.then (PQ.blk (PQ.then PQ.body))))))) rfl (fun w => run_move rfl) ?_
      refine WD.pureOn (i := 21) rfollow_spec_t10 (bt 29 4194303) rfl rfl rfl (decide_eq_true g44) (by kernel_rfl) (PQ.then (PQ.then (PQ.blk (PQ.then (PQ.then (PQ.blk (PQ.then PQ.body))))))) rfl (fun w => run_sub rfl rfl (IntWalk.i64_in _ (by omega))) ?_
      refine WD.takeOn (i := 22) rfollow_spec_t10 (bt 29 8388607) s7 rfl rfl rfl (decide_eq_true g44) (by kernel_rfl) (PQ.then (PQ.then (PQ.blk (PQ.then (PQ.then (PQ.blk (PQ.then PQ.body))))))) rfl (fun w hs => run_indexAddr (q := adr a ((i - 1) * 4)) Tryz.underlying22 Ty.sz51 rfl rfl (by omega) (by omega) ((hs).2.1 (by omega)) (by rw [show ((i : Int) - 1).toNat = i - 1 by omega])) ?_
      refine WD.pureOn (i := 23) rfollow_spec_t10 (bt 29 16777215) rfl rfl rfl (decide_eq_true g44) (by kernel_rfl) (PQ.then (PQ.then (PQ.blk (PQ.then (PQ.then (PQ.blk (PQ.then PQ.body))))))) rfl (fun w => run_fieldAddr (q := (adr a ((i - 1) * 4 + 1))) (show fieldB Tryz.prog 51 1 = some 1 from by kernel_rfl) rfl (adr_add _ (by assumption) _ _)) ?_
      refine WD.takeOn (i := 24) rfollow_spec_t10 (bt 29 33554431) s7 rfl rfl rfl (decide_eq_true g44) (by kernel_rfl) (PQ.then (PQ.then (PQ.blk (PQ.then (PQ.then (PQ.blk (PQ.then PQ.body))))))) rfl (fun w hs => run_load Ty.ag3 rfl ((hs).cell ((flat_get blc_len hq1 (j := 1) (by decide)).trans rfl))) ?_
      refine WD.pureOn (i := 25) rfollow_spec_t10 (bt 29 67108863) rfl rfl rfl (decide_eq_true g44) (by kernel_rfl) (PQ.then (PQ.then (PQ.blk (PQ.then (PQ.then (PQ.blk (PQ.then PQ.body))))))) rfl (fun w => run_add rfl rfl (IntWalk.i64_in _ (by omega))) ?_
      refine WD.pureOn (i := 26) rfollow_spec_t10 (bt 29 134217727) rfl rfl rfl (decide_eq_true g44) (by kernel_rfl) (PQ.then (PQ.then (PQ.blk (PQ.then (PQ.then (PQ.blk (PQ.then PQ.body))))))) rfl (fun w => run_neq rfl rfl) ?_
      refine WD.pureOn (i := 27) rfollow_spec_t10 (bt 29 268435455) rfl rfl rfl (decide_eq_false g41) (by kernel_rfl) (PQ.then (PQ.then (PQ.blk (PQ.then (PQ.then (PQ.blk (PQ.then PQ.body))))))) rfl (fun w => run_pickT rfl (decide_eq_true g44) rfl) ?_
      refine WD.pure (i := 28) rfollow_spec_t10 (bt 29 536870911) rfl rfl rfl (by kernel_rfl) (PQ.then (PQ.then (PQ.blk (PQ.then (PQ.then (PQ.blk (PQ.then PQ.body))))))) rfl (fun w => run_pickF rfl (decide_eq_false g41) rfl) ?_
      refine WD.done rfollow_spec_t10 (by kernel_rfl) ?_
      refine NX.go ?_
      refine WP.condP rfl (fun g59 => ?_) (fun g59 => ?_)
      ·
       refine WP.seq (WP.region rfl ?_)
       refine WO.asg rfl rfl ?_
       refine WO.nil (NX.go (WP.ret (NX.thenRet (NX.blkRet (NX.thenRet (NX.thenRet (NX.blkRet (NX.thenRet ?_))))))))
       refine NX.done (l := [.tmp 2]) rfl rfl ?_
       exact ⟨_, rfl, (fun h => by cases h), hS6⟩
      ·
       refine WP.skip (NX.go (WP.seq ?_))
       have hzb := hbz b1 (List.mem_of_getElem? hb1)
       have hnr := hzb.nr
       refine WP.region rfl ?_
       refine WO.mv rfl rfl ?_
       refine WO.mv rfl rfl ?_
       refine WO.val (run_sliceTo (j := i) Tryz.underlying22 Ty.sz51 rfl ⟨_, rfl⟩ (by omega)) rfl rfl rfl ?_
       refine WO.as (d := 62) (v := Value.slice a ((bs.take i).length) cap) rfl (by rw [List.length_take, Nat.min_eq_left hi]) ?_
       refine WO.call rfl rfl Ty.hd28 rfl (rlasts_spec (cs := bs) (rd_takeB hX hi) (fun b hb => List.mem_of_mem_take hb) (fun b hb => hbz b (List.mem_of_mem_take hb)) (by rw [List.length_take]; omega) (by have h9 := (tots (fun b hb => hchk b (List.mem_of_mem_take hb)) (fun b hb => hwg b (List.mem_of_mem_take (i := i) hb))).1; rw [List.length_take] at h9; omega) hS6) (fun v9 w8 pv9 => ?_)
       obtain ⟨ra, rc, A, rfl, hA, hAn, hAl, hS8⟩ := pv9
       clear hS6
       refine WO.asg rfl rfl ?_
       refine WO.nil (NX.go (WP.seq ?_))
       have hS10 := blA_get (List.mem_of_getElem? hb1) (hS8.permT [3, 0, 0, 0] (L' := allA blA bs :: own ra A.length rc 99 3 (A.flatMap mrc) :: allA mrA A :: X :: L) rfl)
       clear hS8
       have hS11 : St B ((rsA b1.rs) :: allA mrA b1.rs.l :: allA blA bs :: own ra A.length rc 99 3 (A.flatMap mrc) :: allA mrA A :: X :: L) w8 := (hS10.permT [2, 2, 0, 0, 0, 0, 0, 0] (L' := (dsA b1.ds) :: allA recA b1.ds.l :: (rsA b1.rs) :: allA mrA b1.rs.l :: allA blA bs :: own ra A.length rc 99 3 (A.flatMap mrc) :: allA mrA A :: X :: L) rfl).drop.drop
       clear hS10
       refine WP.region rfl ?_
       refine WO.asg rfl rfl ?_
       refine WO.nil (NX.go (WP.block ?_))
       refine WP.loop (α := Nat) (fun x => match x with | k => [(0, Value.slice a bs.length cap), (5, Value.int .i64 (i : Int)), (6, Value.slice ra A.length rc), (7, Value.int .i64 (k : Int))]) (fun x w => match x with | k => (k ≤ b1.rs.l.length) ∧ St B (own ra A.length rc 99 3 (A.flatMap mrc) :: allA mrA A :: (rsA b1.rs) :: allA mrA b1.rs.l :: X :: allA blA bs :: L) w) (fun x => match x with | k => b1.rs.l.length - k) 0 ⟨Nat.zero_le _, (hS11.permT [3, 3, 0, 0, 1, 0] (L' := own ra A.length rc 99 3 (A.flatMap mrc) :: allA mrA A :: (rsA b1.rs) :: allA mrA b1.rs.l :: X :: allA blA bs :: L) rfl)⟩ (Sub.cons rfl (Sub.cons rfl (Sub.cons rfl (Sub.consE rfl (by first | rfl | first | rfl | (congr 1; omega) | (simp; done) | (simp; omega)) (Sub.nil _))))) ?_
       rintro k w12 ⟨hk, hS12⟩
       clear hS11
       refine WP.seq (WP.seq ?_)
       have hsa : a.isSome = true := rd_isSome ((hX (hS12.focus 4 rfl))) (by omega)
       refine WP.region rfl ?_
       refine WO.mv rfl rfl ?_
       refine WO.mv rfl rfl ?_
       refine WO.mv rfl rfl ?_
       refine WO.val (run_indexAddr (q := adr a (i * 4)) Tryz.underlying22 Ty.sz51 rfl rfl (by omega) (by omega) ((hX (hS12.focus 4 rfl)).2.1 (by omega)) rfl) rfl rfl rfl ?_
       refine WO.val (run_fieldAddr (q := (adr a (i * 4 + 2))) (show fieldB Tryz.prog 51 2 = some 2 from by kernel_rfl) rfl (adr_add _ (by assumption) _ _)) rfl rfl rfl ?_
       refine WO.val (run_load Ty.ag49 rfl ((hX (hS12.focus 4 rfl)).cell ((flat_get blc_len hb1 (j := 2) (by decide)).trans rfl))) rfl rfl rfl ?_
       refine WO.val (run_len rfl Tryz.underlying49 rfl) rfl rfl rfl ?_
       refine WO.val (run_lss rfl rfl) rfl rfl rfl ?_
       refine WO.nil (NX.go ?_)
       refine WP.condP rfl (fun g71 => ?_) (fun g71 => ?_)
       ·
        refine WP.skip (NX.go (WP.seq (WP.block (WP.seq ?_))))
        obtain ⟨u, hu⟩ : ∃ qq, b1.rs.l[k]? = some qq := ⟨_, List.getElem?_eq_getElem (by omega)⟩
        have hzu := hzb.r u (List.mem_of_getElem? hu)
        refine WP.region rfl ?_
        refine WO.mv rfl rfl ?_
        refine WO.mv rfl rfl ?_
        refine WO.val (run_indexAddr (q := adr a (i * 4)) Tryz.underlying22 Ty.sz51 rfl rfl (by omega) (by omega) ((hX (hS12.focus 4 rfl)).2.1 (by omega)) rfl) rfl rfl rfl ?_
        refine WO.val (run_fieldAddr (q := (adr a (i * 4 + 2))) (show fieldB Tryz.prog 51 2 = some 2 from by kernel_rfl) rfl (adr_add _ (by assumption) _ _)) rfl rfl rfl ?_
        refine WO.val (run_load Ty.ag49 rfl ((hX (hS12.focus 4 rfl)).cell ((flat_get blc_len hb1 (j := 2) (by decide)).trans rfl))) rfl rfl rfl ?_
        refine WO.mv rfl rfl ?_
        refine WO.val (run_indexAddr (q := adr b1.rs.a (k * 3)) Tryz.underlying49 Ty.sz99 rfl rfl (by omega) (by omega) ((rdH_rd (hS12.focus 2 rfl)).2.1 (by omega)) rfl) rfl rfl rfl ?_
        refine WO.val (run_loadAgg (vs := [Value.slice u.lb.a u.lb.l.length u.lb.cap, Value.int .i64 u.last, Value.slice u.pt.a u.pt.l.length u.pt.cap]) Ty.ag99 Ty.sz99 rfl ((rdH_rd (hS12.focus 2 rfl)).cells (by rw [flat_len mrc_len]; omega) (flat_part mrc_len hu)).1 ((rdH_rd (hS12.focus 2 rfl)).cells (by rw [flat_len mrc_len]; omega) (flat_part mrc_len hu)).2) rfl rfl rfl ?_
        refine WO.alloc (l := [Value.slice none 0 0, Value.int .i64 0, Value.slice none 0 0]) hS12 Ty.zr99 rfl rfl (fun g15 w13 lg15 hS13 => ?_)
        clear hS12
        refine WO.store (l' := [Value.slice u.lb.a u.lb.l.length u.lb.cap, Value.int .i64 u.last, Value.slice u.pt.a u.pt.l.length u.pt.cap]) 0 hS13 rfl Ty.sz99 rfl rfl rfl rfl rfl (Nat.le_of_ble_eq_true rfl) rfl (fun w16 (hS16 : St B (cel g15 [Value.slice u.lb.a u.lb.l.length u.lb.cap, Value.int .i64 u.last, Value.slice u.pt.a u.pt.l.length u.pt.cap] 99 :: own ra A.length rc 99 3 (A.flatMap mrc) :: allA mrA A :: (rsA b1.rs) :: allA mrA b1.rs.l :: X :: allA blA bs :: L) w16) => ?_)
        clear hS13
        refine WO.nil (NX.go (WP.seq ?_))
        have hS17 := mrA_get (List.mem_of_getElem? hu) (hS16.permT [4, 0, 0, 0, 0, 0, 0] (L' := allA mrA b1.rs.l :: cel g15 [Value.slice u.lb.a u.lb.l.length u.lb.cap, Value.int .i64 u.last, Value.slice u.pt.a u.pt.l.length u.pt.cap] 99 :: own ra A.length rc 99 3 (A.flatMap mrc) :: allA mrA A :: (rsA b1.rs) :: X :: allA blA bs :: L) rfl)
        clear hS16
        refine WP.region rfl ?_
        refine WO.mv rfl rfl ?_
        refine WO.val (run_fieldAddr (q := ⟨g15, 0, none⟩) (show fieldB Tryz.prog 99 0 = some 0 from by kernel_rfl) rfl rfl) rfl rfl rfl ?_
        refine WO.val (run_load Ty.ag65 rfl ((hS17.cel_at 3 rfl 0).trans rfl)) rfl rfl rfl ?_
        have hS18 := hS17.permT [4, 4, 0, 0, 0, 0, 0, 0, 0] (L' := own ra A.length rc 99 3 (A.flatMap mrc) :: allA mrA A :: (labA u.lb) :: (ptsA u.pt) :: allA mrA b1.rs.l :: cel g15 [Value.slice u.lb.a u.lb.l.length u.lb.cap, Value.int .i64 u.last, Value.slice u.pt.a u.pt.l.length u.pt.cap] 99 :: (rsA b1.rs) :: X :: allA blA bs :: L) rfl
        clear hS17
        refine WO.call rfl rfl Ty.hd48 rfl (rat_spec (X := own ra A.length rc 99 3 (A.flatMap mrc)) (fun h => h.own_rd.1) rdH_rd (by omega) hAl hzu.1 hS18) (fun v20 w19 pv20 => ?_)
        obtain ⟨rfl, hS19⟩ := pv20
        clear hS18
        refine WO.mv rfl rfl ?_
        refine WO.val (run_extract rfl rfl) rfl rfl rfl ?_
        refine WO.val (run_extract rfl rfl) rfl rfl rfl ?_
        refine WO.asg rfl rfl ?_
        refine WO.asg rfl rfl ?_
        refine WO.nil (NX.go (WP.seq ?_))
        refine WD.start (fun w => Rd w ra A.length 3 (A.flatMap mrc) ∧ Rd w u.lb.a u.lb.l.length 2 (u.lb.l.flatMap prc) ∧ Rd w u.pt.a u.pt.l.length 2 (u.pt.l.flatMap ptc) ∧ (∀ jz, World.cell? w ⟨g15, jz, none⟩ = [Value.slice u.lb.a u.lb.l.length u.lb.cap, Value.int .i64 u.last, Value.slice u.pt.a u.pt.l.length u.pt.cap][jz]?) ∧ Rd w b1.rs.a b1.rs.l.length 3 (b1.rs.l.flatMap mrc) ∧ Rd w a bs.length 4 (bs.flatMap blc)) [] (bt 20 0) Ty.mo rfl (by kernel_rfl) hS19 (fun _ h => ⟨(h.own_rd_i 0 rfl), (rdH_rd (h.focus 2 rfl)), (rdH_rd (h.focus 3 rfl)), h.cel_at 5 rfl, (rdH_rd (h.focus 6 rfl)), (hX (h.focus 7 rfl))⟩) (fun w21 hS21 s22 => ?_)
        clear hS19
        refine WD.pure (i := 0) rfollow_spec_t18 (bt 20 1) rfl rfl rfl (by kernel_rfl) (PQ.then (PQ.blk (PQ.then (PQ.then (PQ.blk (PQ.blk (PQ.then (PQ.then (PQ.blk (PQ.then PQ.body)))))))))) rfl (fun w => run_move rfl) ?_
        refine WD.pure (i := 1) rfollow_spec_t18 (bt 20 3) rfl rfl rfl (by kernel_rfl) (PQ.then (PQ.blk (PQ.then (PQ.then (PQ.blk (PQ.blk (PQ.then (PQ.then (PQ.blk (PQ.then PQ.body)))))))))) rfl (fun w => run_move rfl) ?_
        rcases Bool.eq_false_or_eq_true (hasR A u.lb.l) with g90 | g90
        ·
         obtain ⟨ar, har⟩ := has_some g90
         have halt := (List.getElem?_eq_some_iff.1 har).1
         have hsra : ra.isSome = true := rd_isSome ((hS21.own_rd_i 0 rfl)) (by omega)
         refine WD.pureOn (i := 2) rfollow_spec_t18 (bt 20 7) rfl rfl rfl g90 (by kernel_rfl) (PQ.then (PQ.blk (PQ.then (PQ.then (PQ.blk (PQ.blk (PQ.then (PQ.then (PQ.blk (PQ.then PQ.body)))))))))) rfl (fun w => run_fieldAddr (q := ⟨g15, 2, none⟩) (show fieldB Tryz.prog 99 2 = some 2 from by kernel_rfl) rfl rfl) ?_
         refine WD.takeOn (i := 3) rfollow_spec_t18 (bt 20 15) s22 rfl rfl rfl g90 (by kernel_rfl) (PQ.then (PQ.blk (PQ.then (PQ.then (PQ.blk (PQ.blk (PQ.then (PQ.then (PQ.blk (PQ.then PQ.body)))))))))) rfl (fun w hs => run_load Ty.ag66 rfl ((hs.2.2.2.1 2).trans rfl)) ?_
         refine WD.pureOn (i := 4) rfollow_spec_t18 (bt 20 31) rfl rfl rfl g90 (by kernel_rfl) (PQ.then (PQ.blk (PQ.then (PQ.then (PQ.blk (PQ.blk (PQ.then (PQ.then (PQ.blk (PQ.then PQ.body)))))))))) rfl (fun w => run_len rfl Tryz.underlying66 rfl) ?_
         refine WD.pureOn (i := 5) rfollow_spec_t18 (bt 20 63) rfl rfl rfl g90 (by kernel_rfl) (PQ.then (PQ.blk (PQ.then (PQ.then (PQ.blk (PQ.blk (PQ.then (PQ.then (PQ.blk (PQ.then PQ.body)))))))))) rfl (fun w => run_gtr rfl rfl) ?_
         refine WD.pure (i := 6) rfollow_spec_t18 (bt 20 127) rfl rfl rfl (by kernel_rfl) (PQ.then (PQ.blk (PQ.then (PQ.then (PQ.blk (PQ.blk (PQ.then (PQ.then (PQ.blk (PQ.then PQ.body)))))))))) rfl (fun w => run_pickT rfl g90 rfl) ?_
         refine WD.pure (i := 7) rfollow_spec_t18 (bt 20 255) rfl rfl rfl (by kernel_rfl) (PQ.then (PQ.blk (PQ.then (PQ.then (PQ.blk (PQ.blk (PQ.then (PQ.then (PQ.blk (PQ.then PQ.body)))))))))) rfl (fun w => run_move rfl) ?_
         by_cases g96 : 0 < ((u.pt.l.length : Nat) : Int)
         ·
          obtain ⟨p0, hp0⟩ : ∃ qq, u.pt.l[0]? = some qq := ⟨_, List.getElem?_eq_getElem (by omega)⟩
          have hsp : u.pt.a.isSome = true := rd_isSome ((rdH_rd (hS21.focus 3 rfl))) (by omega)
          refine WD.pureOn (i := 8) rfollow_spec_t18 (bt 20 511) rfl rfl rfl (decide_eq_true g96) (by kernel_rfl) (PQ.then (PQ.blk (PQ.then (PQ.then (PQ.blk (PQ.blk (PQ.then (PQ.then (PQ.blk (PQ.then PQ.body)))))))))) rfl (fun w => run_fieldAddr (q := ⟨g15, 2, none⟩) (show fieldB Tryz.prog 99 2 = some 2 from by kernel_rfl) rfl rfl) ?_
          refine WD.takeOn (i := 9) rfollow_spec_t18 (bt 20 1023) s22 rfl rfl rfl (decide_eq_true g96) (by kernel_rfl) (PQ.then (PQ.blk (PQ.then (PQ.then (PQ.blk (PQ.blk (PQ.then (PQ.then (PQ.blk (PQ.then PQ.body)))))))))) rfl (fun w hs => run_load Ty.ag66 rfl ((hs.2.2.2.1 2).trans rfl)) ?_
          refine WD.takeOn (i := 10) rfollow_spec_t18 (bt 20 2047) s22 rfl rfl rfl (decide_eq_true g96) (by kernel_rfl) (PQ.then (PQ.blk (PQ.then (PQ.then (PQ.blk (PQ.blk (PQ.then (PQ.then (PQ.blk (PQ.then PQ.body)))))))))) rfl (fun w hs => run_indexAddr (q := adr u.pt.a (0 * 2)) Tryz.underlying66 Ty.sz103 rfl rfl (by omega) (by omega) ((hs.2.2.1).2.1 (by omega)) rfl) ?_
          refine WD.pureOn (i := 11) rfollow_spec_t18 (bt 20 4095) rfl rfl rfl (decide_eq_true g96) (by kernel_rfl) (PQ.then (PQ.blk (PQ.then (PQ.then (PQ.blk (PQ.blk (PQ.then (PQ.then (PQ.blk (PQ.then PQ.body)))))))))) rfl (fun w => run_fieldAddr (q := (adr u.pt.a (0 * 2 + 0))) (show fieldB Tryz.prog 103 0 = some 0 from by kernel_rfl) rfl (adr_add _ (by assumption) _ _)) ?_
          refine WD.takeOn (i := 12) rfollow_spec_t18 (bt 20 8191) s22 rfl rfl rfl (decide_eq_true g96) (by kernel_rfl) (PQ.then (PQ.blk (PQ.then (PQ.then (PQ.blk (PQ.blk (PQ.then (PQ.then (PQ.blk (PQ.then PQ.body)))))))))) rfl (fun w hs => run_load Ty.ag2 rfl ((hs.2.2.1).cell ((flat_get ptc_len hp0 (j := 0) (by decide)).trans rfl))) ?_
          refine WD.pureOn (i := 13) rfollow_spec_t18 (bt 20 16383) rfl rfl rfl (decide_eq_true g96) (by kernel_rfl) (PQ.then (PQ.blk (PQ.then (PQ.then (PQ.blk (PQ.blk (PQ.then (PQ.then (PQ.blk (PQ.then PQ.body)))))))))) rfl (fun w => run_move rfl) ?_
          refine WD.pureOn (i := 14) rfollow_spec_t18 (bt 20 32767) rfl rfl rfl (decide_eq_true g96) (by kernel_rfl) (PQ.then (PQ.blk (PQ.then (PQ.then (PQ.blk (PQ.blk (PQ.then (PQ.then (PQ.blk (PQ.then PQ.body)))))))))) rfl (fun w => run_move rfl) ?_
          refine WD.takeOn (i := 15) rfollow_spec_t18 (bt 20 65535) s22 rfl rfl rfl (decide_eq_true g96) (by kernel_rfl) (PQ.then (PQ.blk (PQ.then (PQ.then (PQ.blk (PQ.blk (PQ.then (PQ.then (PQ.blk (PQ.then PQ.body)))))))))) rfl (fun w hs => run_indexAddr (q := adr ra ((atR A u.lb.l) * 3)) Tryz.underlying49 Ty.sz99 rfl rfl (by omega) (by omega) ((hs.1).2.1 (by omega)) rfl) ?_
          refine WD.pureOn (i := 16) rfollow_spec_t18 (bt 20 131071) rfl rfl rfl (decide_eq_true g96) (by kernel_rfl) (PQ.then (PQ.blk (PQ.then (PQ.then (PQ.blk (PQ.blk (PQ.then (PQ.then (PQ.blk (PQ.then PQ.body)))))))))) rfl (fun w => run_fieldAddr (q := (adr ra ((atR A u.lb.l) * 3 + 1))) (show fieldB Tryz.prog 99 1 = some 1 from by kernel_rfl) rfl (adr_add _ (by assumption) _ _)) ?_
          refine WD.takeOn (i := 17) rfollow_spec_t18 (bt 20 262143) s22 rfl rfl rfl (decide_eq_true g96) (by kernel_rfl) (PQ.then (PQ.blk (PQ.then (PQ.then (PQ.blk (PQ.blk (PQ.then (PQ.then (PQ.blk (PQ.then PQ.body)))))))))) rfl (fun w hs => run_load Ty.ag2 rfl ((hs.1).cell ((flat_get mrc_len har (j := 1) (by decide)).trans rfl))) ?_
          refine WD.pureOn (i := 18) rfollow_spec_t18 (bt 20 524287) rfl rfl rfl (decide_eq_true g96) (by kernel_rfl) (PQ.then (PQ.blk (PQ.then (PQ.then (PQ.blk (PQ.blk (PQ.then (PQ.then (PQ.blk (PQ.then PQ.body)))))))))) rfl (fun w => run_leq rfl rfl) ?_
          refine WD.pure (i := 19) rfollow_spec_t18 (bt 20 1048575) rfl rfl rfl (by kernel_rfl) (PQ.then (PQ.blk (PQ.then (PQ.then (PQ.blk (PQ.blk (PQ.then (PQ.then (PQ.blk (PQ.then PQ.body)))))))))) rfl (fun w => run_pickT rfl (decide_eq_true g96) rfl) ?_
          refine WD.done rfollow_spec_t18 (by kernel_rfl) ?_
          refine NX.go ?_
          refine WP.condP rfl (fun g108 => ?_) (fun g108 => ?_)
          ·
           refine WP.seq (WP.region rfl ?_)
           refine WO.asg rfl rfl ?_
           refine WO.nil (NX.go (WP.ret (NX.blkRet (NX.thenRet (NX.thenRet (NX.blkRet (NX.blkRet (NX.thenRet (NX.thenRet (NX.blkRet (NX.thenRet ?_)))))))))))
           refine NX.done (l := [.tmp 2]) rfl rfl ?_
           exact ⟨_, rfl, (fun h => by cases h), hS21.drop.drop.drop.drop.drop.drop.drop⟩
          ·
           refine WP.skip (NX.blk (NX.go (WP.region rfl ?_)))
           refine WO.mv rfl rfl ?_
           refine WO.val (run_add rfl rfl (IntWalk.i64_in _ (by omega))) rfl rfl rfl ?_
           refine WO.asg rfl rfl ?_
           refine WO.nil ?_
           exact NX.again (k + 1) ⟨by omega, (hS21.permT [2, 2, 3, 0, 0, 1, 0, 0, 0] (L' := (labA u.lb) :: (ptsA u.pt) :: cel g15 [Value.slice u.lb.a u.lb.l.length u.lb.cap, Value.int .i64 u.last, Value.slice u.pt.a u.pt.l.length u.pt.cap] 99 :: own ra A.length rc 99 3 (A.flatMap mrc) :: allA mrA A :: (rsA b1.rs) :: allA mrA b1.rs.l :: X :: allA blA bs :: L) rfl).drop.drop.drop⟩ (by show b1.rs.l.length - (k + 1) < b1.rs.l.length - k; omega) (Sub.cons rfl (Sub.cons rfl (Sub.cons rfl (Sub.consE rfl (by congr 1) (Sub.nil _)))))
         ·
          refine WD.off (i := 8) rfollow_spec_t18 (bt 20 511) rfl rfl rfl (decide_eq_false g96) (by kernel_rfl) (PQ.then (PQ.blk (PQ.then (PQ.then (PQ.blk (PQ.blk (PQ.then (PQ.then (PQ.blk (PQ.then PQ.body)))))))))) rfl ?_
          refine WD.off (i := 9) rfollow_spec_t18 (bt 20 1023) rfl rfl rfl (decide_eq_false g96) (by kernel_rfl) (PQ.then (PQ.blk (PQ.then (PQ.then (PQ.blk (PQ.blk (PQ.then (PQ.then (PQ.blk (PQ.then PQ.body)))))))))) rfl ?_
          refine WD.off (i := 10) rfollow_spec_t18 (bt 20 2047) rfl rfl rfl (decide_eq_false g96) (by kernel_rfl) (PQ.then (PQ.blk (PQ.then (PQ.then (PQ.blk (PQ.blk (PQ.then (PQ.then (PQ.blk (PQ.then PQ.body)))))))))) rfl ?_
          refine WD.off (i := 11) rfollow_spec_t18 (bt 20 4095) rfl rfl rfl (decide_eq_false g96) (by kernel_rfl) (PQ.then (PQ.blk (PQ.then (PQ.then (PQ.blk (PQ.blk (PQ.then (PQ.then (PQ.blk (PQ.then PQ.body)))))))))) rfl ?_
          refine WD.off (i := 12) rfollow_spec_t18 (bt 20 8191) rfl rfl rfl (decide_eq_false g96) (by kernel_rfl) (PQ.then (PQ.blk (PQ.then (PQ.then (PQ.blk (PQ.blk (PQ.then (PQ.then (PQ.blk (PQ.then PQ.body)))))))))) rfl ?_
          refine WD.off (i := 13) rfollow_spec_t18 (bt 20 16383) rfl rfl rfl (decide_eq_false g96) (by kernel_rfl) (PQ.then (PQ.blk (PQ.then (PQ.then (PQ.blk (PQ.blk (PQ.then (PQ.then (PQ.blk (PQ.then PQ.body)))))))))) rfl ?_
          refine WD.off (i := 14) rfollow_spec_t18 (bt 20 32767) rfl rfl rfl (decide_eq_false g96) (by kernel_rfl) (PQ.then (PQ.blk (PQ.then (PQ.then (PQ.blk (PQ.blk (PQ.then (PQ.then (PQ.blk (PQ.then PQ.body)))))))))) rfl ?_
          refine WD.off (i := 15) rfollow_spec_t18 (bt 20 65535) rfl rfl rfl (decide_eq_false g96) (by kernel_rfl) (PQ.then (PQ.blk (PQ.then (PQ.then (PQ.blk (PQ.blk (PQ.then (PQ.then (PQ.blk (PQ.then PQ.body)))))))))) rfl ?_
          refine WD.off (i := 16) rfollow_spec_t18 (bt 20 131071) rfl rfl rfl (decide_eq_false g96) (by kernel_rfl) (PQ.then (PQ.blk (PQ.then (PQ.then (PQ.blk (PQ.blk (PQ.then (PQ.then (PQ.blk (PQ.then PQ.body)))))))))) rfl ?_
          refine WD.off (i := 17) rfollow_spec_t18 (bt 20 262143) rfl rfl rfl (decide_eq_false g96) (by kernel_rfl) (PQ.then (PQ.blk (PQ.then (PQ.then (PQ.blk (PQ.blk (PQ.then (PQ.then (PQ.blk (PQ.then PQ.body)))))))))) rfl ?_
          refine WD.off (i := 18) rfollow_spec_t18 (bt 20 524287) rfl rfl rfl (decide_eq_false g96) (by kernel_rfl) (PQ.then (PQ.blk (PQ.then (PQ.then (PQ.blk (PQ.blk (PQ.then (PQ.then (PQ.blk (PQ.then PQ.body)))))))))) rfl ?_
          refine WD.pure (i := 19) rfollow_spec_t18 (bt 20 1048575) rfl rfl rfl (by kernel_rfl) (PQ.then (PQ.blk (PQ.then (PQ.then (PQ.blk (PQ.blk (PQ.then (PQ.then (PQ.blk (PQ.then PQ.body)))))))))) rfl (fun w => run_pickF rfl (decide_eq_false g96) rfl) ?_
          refine WD.done rfollow_spec_t18 (by kernel_rfl) ?_
          refine NX.go ?_
          refine WP.condF rfl rfl ?_
          refine WP.skip (NX.blk (NX.go (WP.region rfl ?_)))
          refine WO.mv rfl rfl ?_
          refine WO.val (run_add rfl rfl (IntWalk.i64_in _ (by omega))) rfl rfl rfl ?_
          refine WO.asg rfl rfl ?_
          refine WO.nil ?_
          exact NX.again (k + 1) ⟨by omega, (hS21.permT [2, 2, 3, 0, 0, 1, 0, 0, 0] (L' := (labA u.lb) :: (ptsA u.pt) :: cel g15 [Value.slice u.lb.a u.lb.l.length u.lb.cap, Value.int .i64 u.last, Value.slice u.pt.a u.pt.l.length u.pt.cap] 99 :: own ra A.length rc 99 3 (A.flatMap mrc) :: allA mrA A :: (rsA b1.rs) :: allA mrA b1.rs.l :: X :: allA blA bs :: L) rfl).drop.drop.drop⟩ (by show b1.rs.l.length - (k + 1) < b1.rs.l.length - k; omega) (Sub.cons rfl (Sub.cons rfl (Sub.cons rfl (Sub.consE rfl (by congr 1) (Sub.nil _)))))
        ·
         refine WD.off (i := 2) rfollow_spec_t18 (bt 20 7) rfl rfl rfl g90 (by kernel_rfl) (PQ.then (PQ.blk (PQ.then (PQ.then (PQ.blk (PQ.blk (PQ.then (PQ.then (PQ.blk (PQ.then PQ.body)))))))))) rfl ?_
         refine WD.off (i := 3) rfollow_spec_t18 (bt 20 15) rfl rfl rfl g90 (by kernel_rfl) (PQ.then (PQ.blk (PQ.then (PQ.then (PQ.blk (PQ.blk (PQ.then (PQ.then (PQ.blk (PQ.then PQ.body)))))))))) rfl ?_
         refine WD.off (i := 4) rfollow_spec_t18 (bt 20 31) rfl rfl rfl g90 (by kernel_rfl) (PQ.then (PQ.blk (PQ.then (PQ.then (PQ.blk (PQ.blk (PQ.then (PQ.then (PQ.blk (PQ.then PQ.body)))))))))) rfl ?_
         refine WD.off (i := 5) rfollow_spec_t18 (bt 20 63) rfl rfl rfl g90 (by kernel_rfl) (PQ.then (PQ.blk (PQ.then (PQ.then (PQ.blk (PQ.blk (PQ.then (PQ.then (PQ.blk (PQ.then PQ.body)))))))))) rfl ?_
         refine WD.pure (i := 6) rfollow_spec_t18 (bt 20 127) rfl rfl rfl (by kernel_rfl) (PQ.then (PQ.blk (PQ.then (PQ.then (PQ.blk (PQ.blk (PQ.then (PQ.then (PQ.blk (PQ.then PQ.body)))))))))) rfl (fun w => run_pickF rfl g90 rfl) ?_
         refine WD.pure (i := 7) rfollow_spec_t18 (bt 20 255) rfl rfl rfl (by kernel_rfl) (PQ.then (PQ.blk (PQ.then (PQ.then (PQ.blk (PQ.blk (PQ.then (PQ.then (PQ.blk (PQ.then PQ.body)))))))))) rfl (fun w => run_move rfl) ?_
         refine WD.off (i := 8) rfollow_spec_t18 (bt 20 511) rfl rfl rfl rfl (by kernel_rfl) (PQ.then (PQ.blk (PQ.then (PQ.then (PQ.blk (PQ.blk (PQ.then (PQ.then (PQ.blk (PQ.then PQ.body)))))))))) rfl ?_
         refine WD.off (i := 9) rfollow_spec_t18 (bt 20 1023) rfl rfl rfl rfl (by kernel_rfl) (PQ.then (PQ.blk (PQ.then (PQ.then (PQ.blk (PQ.blk (PQ.then (PQ.then (PQ.blk (PQ.then PQ.body)))))))))) rfl ?_
         refine WD.off (i := 10) rfollow_spec_t18 (bt 20 2047) rfl rfl rfl rfl (by kernel_rfl) (PQ.then (PQ.blk (PQ.then (PQ.then (PQ.blk (PQ.blk (PQ.then (PQ.then (PQ.blk (PQ.then PQ.body)))))))))) rfl ?_
         refine WD.off (i := 11) rfollow_spec_t18 (bt 20 4095) rfl rfl rfl rfl (by kernel_rfl) (PQ.then (PQ.blk (PQ.then (PQ.then (PQ.blk (PQ.blk (PQ.then (PQ.then (PQ.blk (PQ.then PQ.body)))))))))) rfl ?_
         refine WD.off (i := 12) rfollow_spec_t18 (bt 20 8191) rfl rfl rfl rfl (by kernel_rfl) (PQ.then (PQ.blk (PQ.then (PQ.then (PQ.blk (PQ.blk (PQ.then (PQ.then (PQ.blk (PQ.then PQ.body)))))))))) rfl ?_
         refine WD.off (i := 13) rfollow_spec_t18 (bt 20 16383) rfl rfl rfl rfl (by kernel_rfl) (PQ.then (PQ.blk (PQ.then (PQ.then (PQ.blk (PQ.blk (PQ.then (PQ.then (PQ.blk (PQ.then PQ.body)))))))))) rfl ?_
         refine WD.off (i := 14) rfollow_spec_t18 (bt 20 32767) rfl rfl rfl rfl (by kernel_rfl) (PQ.then (PQ.blk (PQ.then (PQ.then (PQ.blk (PQ.blk (PQ.then (PQ.then (PQ.blk (PQ.then PQ.body)))))))))) rfl ?_
         refine WD.off (i := 15) rfollow_spec_t18 (bt 20 65535) rfl rfl rfl rfl (by kernel_rfl) (PQ.then (PQ.blk (PQ.then (PQ.then (PQ.blk (PQ.blk (PQ.then (PQ.then (PQ.blk (PQ.then PQ.body)))))))))) rfl ?_
         refine WD.off (i := 16) rfollow_spec_t18 (bt 20 131071) rfl rfl rfl rfl (by kernel_rfl) (PQ.then (PQ.blk (PQ.then (PQ.then (PQ.blk (PQ.blk (PQ.then (PQ.then (PQ.blk (PQ.then PQ.body)))))))))) rfl ?_
         refine WD.off (i := 17) rfollow_spec_t18 (bt 20 262143) rfl rfl rfl rfl (by kernel_rfl) (PQ.then (PQ.blk (PQ.then (PQ.then (PQ.blk (PQ.blk (PQ.then (PQ.then (PQ.blk (PQ.then PQ.body)))))))))) rfl ?_
         refine WD.off (i := 18) rfollow_spec_t18 (bt 20 524287) rfl rfl rfl rfl (by kernel_rfl) (PQ.then (PQ.blk (PQ.then (PQ.then (PQ.blk (PQ.blk (PQ.then (PQ.then (PQ.blk (PQ.then PQ.body)))))))))) rfl ?_
         refine WD.pure (i := 19) rfollow_spec_t18 (bt 20 1048575) rfl rfl rfl (by kernel_rfl) (PQ.then (PQ.blk (PQ.then (PQ.then (PQ.blk (PQ.blk (PQ.then (PQ.then (PQ.blk (PQ.then PQ.body)))))))))) rfl (fun w => run_pickF rfl rfl rfl) ?_
         refine WD.done rfollow_spec_t18 (by kernel_rfl) ?_
         refine NX.go ?_
         refine WP.condF rfl rfl ?_
         refine WP.skip (NX.blk (NX.go (WP.region rfl ?_)))
         refine WO.mv rfl rfl ?_
         refine WO.val (run_add rfl rfl (IntWalk.i64_in _ (by omega))) rfl rfl rfl ?_
         refine WO.asg rfl rfl ?_
         refine WO.nil ?_
         exact NX.again (k + 1) ⟨by omega, (hS21.permT [2, 2, 3, 0, 0, 1, 0, 0, 0] (L' := (labA u.lb) :: (ptsA u.pt) :: cel g15 [Value.slice u.lb.a u.lb.l.length u.lb.cap, Value.int .i64 u.last, Value.slice u.pt.a u.pt.l.length u.pt.cap] 99 :: own ra A.length rc 99 3 (A.flatMap mrc) :: allA mrA A :: (rsA b1.rs) :: allA mrA b1.rs.l :: X :: allA blA bs :: L) rfl).drop.drop.drop⟩ (by show b1.rs.l.length - (k + 1) < b1.rs.l.length - k; omega) (Sub.cons rfl (Sub.cons rfl (Sub.cons rfl (Sub.consE rfl (by congr 1) (Sub.nil _)))))
       ·
        refine WP.exit (NX.thenExit (NX.thenExit ?_))
        refine NX.blkExit ?_
        refine NX.blk (NX.go (WP.region rfl ?_))
        refine WO.mv rfl rfl ?_
        refine WO.val (run_add rfl rfl (IntWalk.i64_in _ (by omega))) rfl rfl rfl ?_
        refine WO.asg rfl rfl ?_
        refine WO.nil ?_
        exact NX.again (i + 1) ⟨by omega, hS12.drop.drop.drop.drop⟩ (by show bs.length - (i + 1) < bs.length - i; omega) (Sub.cons rfl (Sub.consE rfl (by congr 1) (Sub.nil _)))
     ·
      refine WD.off (i := 14) rfollow_spec_t10 (bt 29 32767) rfl rfl rfl (decide_eq_false g44) (by kernel_rfl) (PQ.then (PQ.then (PQ.blk (PQ.then (PQ.then (PQ.blk (PQ.then PQ.body))))))) rfl ?_
      refine WD.off (i := 15) rfollow_spec_t10 (bt 29 65535) rfl rfl rfl (decide_eq_false g44) (by kernel_rfl) (PQ.then (PQ.then (PQ.blk (PQ.then (PQ.then (PQ.blk (PQ.then PQ.body))))))) rfl ?_
      refine WD.off (i := 16) rfollow_spec_t10 (bt 29 131071) rfl rfl rfl (decide_eq_false g44) (by kernel_rfl) (PQ.then (PQ.then (PQ.blk (PQ.then (PQ.then (PQ.blk (PQ.then PQ.body))))))) rfl ?_
      refine WD.off (i := 17) rfollow_spec_t10 (bt 29 262143) rfl rfl rfl (decide_eq_false g44) (by kernel_rfl) (PQ.then (PQ.then (PQ.blk (PQ.then (PQ.then (PQ.blk (PQ.then PQ.body))))))) rfl ?_
      refine WD.off (i := 18) rfollow_spec_t10 (bt 29 524287) rfl rfl rfl (decide_eq_false g44) (by kernel_rfl) (PQ.then (PQ.then (PQ.blk (PQ.then (PQ.then (PQ.blk (PQ.then PQ.body))))))) rfl ?_
      refine WD.off (i := 19) rfollow_spec_t10 (bt 29 1048575) rfl rfl rfl (decide_eq_false g44) (by kernel_rfl) (PQ.then (PQ.then (PQ.blk (PQ.then (PQ.then (PQ.blk (PQ.then PQ.body))))))) rfl ?_
      refine WD.off (i := 20) rfollow_spec_t10 (bt 29 2097151) rfl rfl rfl (decide_eq_false g44) (by kernel_rfl) (PQ.then (PQ.then (PQ.blk (PQ.then (PQ.then (PQ.blk (PQ.then PQ.body))))))) rfl ?_
      refine WD.off (i := 21) rfollow_spec_t10 (bt 29 4194303) rfl rfl rfl (decide_eq_false g44) (by kernel_rfl) (PQ.then (PQ.then (PQ.blk (PQ.then (PQ.then (PQ.blk (PQ.then PQ.body))))))) rfl ?_
      refine WD.off (i := 22) rfollow_spec_t10 (bt 29 8388607) rfl rfl rfl (decide_eq_false g44) (by kernel_rfl) (PQ.then (PQ.then (PQ.blk (PQ.then (PQ.then (PQ.blk (PQ.then PQ.body))))))) rfl ?_
      refine WD.off (i := 23) rfollow_spec_t10 (bt 29 16777215) rfl rfl rfl (decide_eq_false g44) (by kernel_rfl) (PQ.then (PQ.then (PQ.blk (PQ.then (PQ.then (PQ.blk (PQ.then PQ.body))))))) rfl ?_
      refine WD.off (i := 24) rfollow_spec_t10 (bt 29 33554431) rfl rfl rfl (decide_eq_false g44) (by kernel_rfl) (PQ.then (PQ.then (PQ.blk (PQ.then (PQ.then (PQ.blk (PQ.then PQ.body))))))) rfl ?_
      refine WD.off (i := 25) rfollow_spec_t10 (bt 29 67108863) rfl rfl rfl (decide_eq_false g44) (by kernel_rfl) (PQ.then (PQ.then (PQ.blk (PQ.then (PQ.then (PQ.blk (PQ.then PQ.body))))))) rfl ?_
      refine WD.off (i := 26) rfollow_spec_t10 (bt 29 134217727) rfl rfl rfl (decide_eq_false g44) (by kernel_rfl) (PQ.then (PQ.then (PQ.blk (PQ.then (PQ.then (PQ.blk (PQ.then PQ.body))))))) rfl ?_
      refine WD.pureOn (i := 27) rfollow_spec_t10 (bt 29 268435455) rfl rfl rfl (decide_eq_false g41) (by kernel_rfl) (PQ.then (PQ.then (PQ.blk (PQ.then (PQ.then (PQ.blk (PQ.then PQ.body))))))) rfl (fun w => run_pickF rfl (decide_eq_false g44) rfl) ?_
      refine WD.pure (i := 28) rfollow_spec_t10 (bt 29 536870911) rfl rfl rfl (by kernel_rfl) (PQ.then (PQ.then (PQ.blk (PQ.then (PQ.then (PQ.blk (PQ.then PQ.body))))))) rfl (fun w => run_pickF rfl (decide_eq_false g41) rfl) ?_
      refine WD.done rfollow_spec_t10 (by kernel_rfl) ?_
      refine NX.go ?_
      refine WP.condF rfl rfl ?_
      refine WP.skip (NX.go (WP.seq ?_))
      have hzb := hbz b1 (List.mem_of_getElem? hb1)
      have hnr := hzb.nr
      refine WP.region rfl ?_
      refine WO.mv rfl rfl ?_
      refine WO.mv rfl rfl ?_
      refine WO.val (run_sliceTo (j := i) Tryz.underlying22 Ty.sz51 rfl ⟨_, rfl⟩ (by omega)) rfl rfl rfl ?_
      refine WO.as (d := 62) (v := Value.slice a ((bs.take i).length) cap) rfl (by rw [List.length_take, Nat.min_eq_left hi]) ?_
      refine WO.call rfl rfl Ty.hd28 rfl (rlasts_spec (cs := bs) (rd_takeB hX hi) (fun b hb => List.mem_of_mem_take hb) (fun b hb => hbz b (List.mem_of_mem_take hb)) (by rw [List.length_take]; omega) (by have h9 := (tots (fun b hb => hchk b (List.mem_of_mem_take hb)) (fun b hb => hwg b (List.mem_of_mem_take (i := i) hb))).1; rw [List.length_take] at h9; omega) hS6) (fun v24 w23 pv24 => ?_)
      obtain ⟨ra, rc, A, rfl, hA, hAn, hAl, hS23⟩ := pv24
      clear hS6
      refine WO.asg rfl rfl ?_
      refine WO.nil (NX.go (WP.seq ?_))
      have hS25 := blA_get (List.mem_of_getElem? hb1) (hS23.permT [3, 0, 0, 0] (L' := allA blA bs :: own ra A.length rc 99 3 (A.flatMap mrc) :: allA mrA A :: X :: L) rfl)
      clear hS23
      have hS26 : St B ((rsA b1.rs) :: allA mrA b1.rs.l :: allA blA bs :: own ra A.length rc 99 3 (A.flatMap mrc) :: allA mrA A :: X :: L) w23 := (hS25.permT [2, 2, 0, 0, 0, 0, 0, 0] (L' := (dsA b1.ds) :: allA recA b1.ds.l :: (rsA b1.rs) :: allA mrA b1.rs.l :: allA blA bs :: own ra A.length rc 99 3 (A.flatMap mrc) :: allA mrA A :: X :: L) rfl).drop.drop
      clear hS25
      refine WP.region rfl ?_
      refine WO.asg rfl rfl ?_
      refine WO.nil (NX.go (WP.block ?_))
      refine WP.loop (α := Nat) (fun x => match x with | k => [(0, Value.slice a bs.length cap), (5, Value.int .i64 (i : Int)), (6, Value.slice ra A.length rc), (7, Value.int .i64 (k : Int))]) (fun x w => match x with | k => (k ≤ b1.rs.l.length) ∧ St B (own ra A.length rc 99 3 (A.flatMap mrc) :: allA mrA A :: (rsA b1.rs) :: allA mrA b1.rs.l :: X :: allA blA bs :: L) w) (fun x => match x with | k => b1.rs.l.length - k) 0 ⟨Nat.zero_le _, (hS26.permT [3, 3, 0, 0, 1, 0] (L' := own ra A.length rc 99 3 (A.flatMap mrc) :: allA mrA A :: (rsA b1.rs) :: allA mrA b1.rs.l :: X :: allA blA bs :: L) rfl)⟩ (Sub.cons rfl (Sub.cons rfl (Sub.cons rfl (Sub.consE rfl (by first | rfl | first | rfl | (congr 1; omega) | (simp; done) | (simp; omega)) (Sub.nil _))))) ?_
      rintro k w27 ⟨hk, hS27⟩
      clear hS26
      refine WP.seq (WP.seq ?_)
      have hsa : a.isSome = true := rd_isSome ((hX (hS27.focus 4 rfl))) (by omega)
      refine WP.region rfl ?_
      refine WO.mv rfl rfl ?_
      refine WO.mv rfl rfl ?_
      refine WO.mv rfl rfl ?_
      refine WO.val (run_indexAddr (q := adr a (i * 4)) Tryz.underlying22 Ty.sz51 rfl rfl (by omega) (by omega) ((hX (hS27.focus 4 rfl)).2.1 (by omega)) rfl) rfl rfl rfl ?_
      refine WO.val (run_fieldAddr (q := (adr a (i * 4 + 2))) (show fieldB Tryz.prog 51 2 = some 2 from by kernel_rfl) rfl (adr_add _ (by assumption) _ _)) rfl rfl rfl ?_
      refine WO.val (run_load Ty.ag49 rfl ((hX (hS27.focus 4 rfl)).cell ((flat_get blc_len hb1 (j := 2) (by decide)).trans rfl))) rfl rfl rfl ?_
      refine WO.val (run_len rfl Tryz.underlying49 rfl) rfl rfl rfl ?_
      refine WO.val (run_lss rfl rfl) rfl rfl rfl ?_
      refine WO.nil (NX.go ?_)
      refine WP.condP rfl (fun g71 => ?_) (fun g71 => ?_)
      ·
       refine WP.skip (NX.go (WP.seq (WP.block (WP.seq ?_))))
       obtain ⟨u, hu⟩ : ∃ qq, b1.rs.l[k]? = some qq := ⟨_, List.getElem?_eq_getElem (by omega)⟩
       have hzu := hzb.r u (List.mem_of_getElem? hu)
       refine WP.region rfl ?_
       refine WO.mv rfl rfl ?_
       refine WO.mv rfl rfl ?_
       refine WO.val (run_indexAddr (q := adr a (i * 4)) Tryz.underlying22 Ty.sz51 rfl rfl (by omega) (by omega) ((hX (hS27.focus 4 rfl)).2.1 (by omega)) rfl) rfl rfl rfl ?_
       refine WO.val (run_fieldAddr (q := (adr a (i * 4 + 2))) (show fieldB Tryz.prog 51 2 = some 2 from by kernel_rfl) rfl (adr_add _ (by assumption) _ _)) rfl rfl rfl ?_
       refine WO.val (run_load Ty.ag49 rfl ((hX (hS27.focus 4 rfl)).cell ((flat_get blc_len hb1 (j := 2) (by decide)).trans rfl))) rfl rfl rfl ?_
       refine WO.mv rfl rfl ?_
       refine WO.val (run_indexAddr (q := adr b1.rs.a (k * 3)) Tryz.underlying49 Ty.sz99 rfl rfl (by omega) (by omega) ((rdH_rd (hS27.focus 2 rfl)).2.1 (by omega)) rfl) rfl rfl rfl ?_
       refine WO.val (run_loadAgg (vs := [Value.slice u.lb.a u.lb.l.length u.lb.cap, Value.int .i64 u.last, Value.slice u.pt.a u.pt.l.length u.pt.cap]) Ty.ag99 Ty.sz99 rfl ((rdH_rd (hS27.focus 2 rfl)).cells (by rw [flat_len mrc_len]; omega) (flat_part mrc_len hu)).1 ((rdH_rd (hS27.focus 2 rfl)).cells (by rw [flat_len mrc_len]; omega) (flat_part mrc_len hu)).2) rfl rfl rfl ?_
       refine WO.alloc (l := [Value.slice none 0 0, Value.int .i64 0, Value.slice none 0 0]) hS27 Ty.zr99 rfl rfl (fun g29 w28 lg29 hS28 => ?_)
       clear hS27
       refine WO.store (l' := [Value.slice u.lb.a u.lb.l.length u.lb.cap, Value.int .i64 u.last, Value.slice u.pt.a u.pt.l.length u.pt.cap]) 0 hS28 rfl Ty.sz99 rfl rfl rfl rfl rfl (Nat.le_of_ble_eq_true rfl) rfl (fun w30 (hS30 : St B (cel g29 [Value.slice u.lb.a u.lb.l.length u.lb.cap, Value.int .i64 u.last, Value.slice u.pt.a u.pt.l.length u.pt.cap] 99 :: own ra A.length rc 99 3 (A.flatMap mrc) :: allA mrA A :: (rsA b1.rs) :: allA mrA b1.rs.l :: X :: allA blA bs :: L) w30) => ?_)
       clear hS28
       refine WO.nil (NX.go (WP.seq ?_))
       have hS31 := mrA_get (List.mem_of_getElem? hu) (hS30.permT [4, 0, 0, 0, 0, 0, 0] (L' := allA mrA b1.rs.l :: cel g29 [Value.slice u.lb.a u.lb.l.length u.lb.cap, Value.int .i64 u.last, Value.slice u.pt.a u.pt.l.length u.pt.cap] 99 :: own ra A.length rc 99 3 (A.flatMap mrc) :: allA mrA A :: (rsA b1.rs) :: X :: allA blA bs :: L) rfl)
       clear hS30
       refine WP.region rfl ?_
       refine WO.mv rfl rfl ?_
       refine WO.val (run_fieldAddr (q := ⟨g29, 0, none⟩) (show fieldB Tryz.prog 99 0 = some 0 from by kernel_rfl) rfl rfl) rfl rfl rfl ?_
       refine WO.val (run_load Ty.ag65 rfl ((hS31.cel_at 3 rfl 0).trans rfl)) rfl rfl rfl ?_
       have hS32 := hS31.permT [4, 4, 0, 0, 0, 0, 0, 0, 0] (L' := own ra A.length rc 99 3 (A.flatMap mrc) :: allA mrA A :: (labA u.lb) :: (ptsA u.pt) :: allA mrA b1.rs.l :: cel g29 [Value.slice u.lb.a u.lb.l.length u.lb.cap, Value.int .i64 u.last, Value.slice u.pt.a u.pt.l.length u.pt.cap] 99 :: (rsA b1.rs) :: X :: allA blA bs :: L) rfl
       clear hS31
       refine WO.call rfl rfl Ty.hd48 rfl (rat_spec (X := own ra A.length rc 99 3 (A.flatMap mrc)) (fun h => h.own_rd.1) rdH_rd (by omega) hAl hzu.1 hS32) (fun v34 w33 pv34 => ?_)
       obtain ⟨rfl, hS33⟩ := pv34
       clear hS32
       refine WO.mv rfl rfl ?_
       refine WO.val (run_extract rfl rfl) rfl rfl rfl ?_
       refine WO.val (run_extract rfl rfl) rfl rfl rfl ?_
       refine WO.asg rfl rfl ?_
       refine WO.asg rfl rfl ?_
       refine WO.nil (NX.go (WP.seq ?_))
       refine WD.start (fun w => Rd w ra A.length 3 (A.flatMap mrc) ∧ Rd w u.lb.a u.lb.l.length 2 (u.lb.l.flatMap prc) ∧ Rd w u.pt.a u.pt.l.length 2 (u.pt.l.flatMap ptc) ∧ (∀ jz, World.cell? w ⟨g29, jz, none⟩ = [Value.slice u.lb.a u.lb.l.length u.lb.cap, Value.int .i64 u.last, Value.slice u.pt.a u.pt.l.length u.pt.cap][jz]?) ∧ Rd w b1.rs.a b1.rs.l.length 3 (b1.rs.l.flatMap mrc) ∧ Rd w a bs.length 4 (bs.flatMap blc)) [] (bt 20 0) Ty.mo rfl (by kernel_rfl) hS33 (fun _ h => ⟨(h.own_rd_i 0 rfl), (rdH_rd (h.focus 2 rfl)), (rdH_rd (h.focus 3 rfl)), h.cel_at 5 rfl, (rdH_rd (h.focus 6 rfl)), (hX (h.focus 7 rfl))⟩) (fun w35 hS35 s36 => ?_)
       clear hS33
       refine WD.pure (i := 0) rfollow_spec_t18 (bt 20 1) rfl rfl rfl (by kernel_rfl) (PQ.then (PQ.blk (PQ.then (PQ.then (PQ.blk (PQ.blk (PQ.then (PQ.then (PQ.blk (PQ.then PQ.body)))))))))) rfl (fun w => run_move rfl) ?_
       refine WD.pure (i := 1) rfollow_spec_t18 (bt 20 3) rfl rfl rfl (by kernel_rfl) (PQ.then (PQ.blk (PQ.then (PQ.then (PQ.blk (PQ.blk (PQ.then (PQ.then (PQ.blk (PQ.then PQ.body)))))))))) rfl (fun w => run_move rfl) ?_
       rcases Bool.eq_false_or_eq_true (hasR A u.lb.l) with g90 | g90
       ·
        obtain ⟨ar, har⟩ := has_some g90
        have halt := (List.getElem?_eq_some_iff.1 har).1
        have hsra : ra.isSome = true := rd_isSome ((hS35.own_rd_i 0 rfl)) (by omega)
        refine WD.pureOn (i := 2) rfollow_spec_t18 (bt 20 7) rfl rfl rfl g90 (by kernel_rfl) (PQ.then (PQ.blk (PQ.then (PQ.then (PQ.blk (PQ.blk (PQ.then (PQ.then (PQ.blk (PQ.then PQ.body)))))))))) rfl (fun w => run_fieldAddr (q := ⟨g29, 2, none⟩) (show fieldB Tryz.prog 99 2 = some 2 from by kernel_rfl) rfl rfl) ?_
        refine WD.takeOn (i := 3) rfollow_spec_t18 (bt 20 15) s36 rfl rfl rfl g90 (by kernel_rfl) (PQ.then (PQ.blk (PQ.then (PQ.then (PQ.blk (PQ.blk (PQ.then (PQ.then (PQ.blk (PQ.then PQ.body)))))))))) rfl (fun w hs => run_load Ty.ag66 rfl ((hs.2.2.2.1 2).trans rfl)) ?_
        refine WD.pureOn (i := 4) rfollow_spec_t18 (bt 20 31) rfl rfl rfl g90 (by kernel_rfl) (PQ.then (PQ.blk (PQ.then (PQ.then (PQ.blk (PQ.blk (PQ.then (PQ.then (PQ.blk (PQ.then PQ.body)))))))))) rfl (fun w => run_len rfl Tryz.underlying66 rfl) ?_
        refine WD.pureOn (i := 5) rfollow_spec_t18 (bt 20 63) rfl rfl rfl g90 (by kernel_rfl) (PQ.then (PQ.blk (PQ.then (PQ.then (PQ.blk (PQ.blk (PQ.then (PQ.then (PQ.blk (PQ.then PQ.body)))))))))) rfl (fun w => run_gtr rfl rfl) ?_
        refine WD.pure (i := 6) rfollow_spec_t18 (bt 20 127) rfl rfl rfl (by kernel_rfl) (PQ.then (PQ.blk (PQ.then (PQ.then (PQ.blk (PQ.blk (PQ.then (PQ.then (PQ.blk (PQ.then PQ.body)))))))))) rfl (fun w => run_pickT rfl g90 rfl) ?_
        refine WD.pure (i := 7) rfollow_spec_t18 (bt 20 255) rfl rfl rfl (by kernel_rfl) (PQ.then (PQ.blk (PQ.then (PQ.then (PQ.blk (PQ.blk (PQ.then (PQ.then (PQ.blk (PQ.then PQ.body)))))))))) rfl (fun w => run_move rfl) ?_
        by_cases g96 : 0 < ((u.pt.l.length : Nat) : Int)
        ·
         obtain ⟨p0, hp0⟩ : ∃ qq, u.pt.l[0]? = some qq := ⟨_, List.getElem?_eq_getElem (by omega)⟩
         have hsp : u.pt.a.isSome = true := rd_isSome ((rdH_rd (hS35.focus 3 rfl))) (by omega)
         refine WD.pureOn (i := 8) rfollow_spec_t18 (bt 20 511) rfl rfl rfl (decide_eq_true g96) (by kernel_rfl) (PQ.then (PQ.blk (PQ.then (PQ.then (PQ.blk (PQ.blk (PQ.then (PQ.then (PQ.blk (PQ.then PQ.body)))))))))) rfl (fun w => run_fieldAddr (q := ⟨g29, 2, none⟩) (show fieldB Tryz.prog 99 2 = some 2 from by kernel_rfl) rfl rfl) ?_
         refine WD.takeOn (i := 9) rfollow_spec_t18 (bt 20 1023) s36 rfl rfl rfl (decide_eq_true g96) (by kernel_rfl) (PQ.then (PQ.blk (PQ.then (PQ.then (PQ.blk (PQ.blk (PQ.then (PQ.then (PQ.blk (PQ.then PQ.body)))))))))) rfl (fun w hs => run_load Ty.ag66 rfl ((hs.2.2.2.1 2).trans rfl)) ?_
         refine WD.takeOn (i := 10) rfollow_spec_t18 (bt 20 2047) s36 rfl rfl rfl (decide_eq_true g96) (by kernel_rfl) (PQ.then (PQ.blk (PQ.then (PQ.then (PQ.blk (PQ.blk (PQ.then (PQ.then (PQ.blk (PQ.then PQ.body)))))))))) rfl (fun w hs => run_indexAddr (q := adr u.pt.a (0 * 2)) Tryz.underlying66 Ty.sz103 rfl rfl (by omega) (by omega) ((hs.2.2.1).2.1 (by omega)) rfl) ?_
         refine WD.pureOn (i := 11) rfollow_spec_t18 (bt 20 4095) rfl rfl rfl (decide_eq_true g96) (by kernel_rfl) (PQ.then (PQ.blk (PQ.then (PQ.then (PQ.blk (PQ.blk (PQ.then (PQ.then (PQ.blk (PQ.then PQ.body)))))))))) rfl (fun w => run_fieldAddr (q := (adr u.pt.a (0 * 2 + 0))) (show fieldB Tryz.prog 103 0 = some 0 from by kernel_rfl) rfl (adr_add _ (by assumption) _ _)) ?_
         refine WD.takeOn (i := 12) rfollow_spec_t18 (bt 20 8191) s36 rfl rfl rfl (decide_eq_true g96) (by kernel_rfl) (PQ.then (PQ.blk (PQ.then (PQ.then (PQ.blk (PQ.blk (PQ.then (PQ.then (PQ.blk (PQ.then PQ.body)))))))))) rfl (fun w hs => run_load Ty.ag2 rfl ((hs.2.2.1).cell ((flat_get ptc_len hp0 (j := 0) (by decide)).trans rfl))) ?_
         refine WD.pureOn (i := 13) rfollow_spec_t18 (bt 20 16383) rfl rfl rfl (decide_eq_true g96) (by kernel_rfl) (PQ.then (PQ.blk (PQ.then (PQ.then (PQ.blk (PQ.blk (PQ.then (PQ.then (PQ.blk (PQ.then PQ.body)))))))))) rfl (fun w => run_move rfl) ?_
         refine WD.pureOn (i := 14) rfollow_spec_t18 (bt 20 32767) rfl rfl rfl (decide_eq_true g96) (by kernel_rfl) (PQ.then (PQ.blk (PQ.then (PQ.then (PQ.blk (PQ.blk (PQ.then (PQ.then (PQ.blk (PQ.then PQ.body)))))))))) rfl (fun w => run_move rfl) ?_
         refine WD.takeOn (i := 15) rfollow_spec_t18 (bt 20 65535) s36 rfl rfl rfl (decide_eq_true g96) (by kernel_rfl) (PQ.then (PQ.blk (PQ.then (PQ.then (PQ.blk (PQ.blk (PQ.then (PQ.then (PQ.blk (PQ.then PQ.body)))))))))) rfl (fun w hs => run_indexAddr (q := adr ra ((atR A u.lb.l) * 3)) Tryz.underlying49 Ty.sz99 rfl rfl (by omega) (by omega) ((hs.1).2.1 (by omega)) rfl) ?_
         refine WD.pureOn (i := 16) rfollow_spec_t18 (bt 20 131071) rfl rfl rfl (decide_eq_true g96) (by kernel_rfl) (PQ.then (PQ.blk (PQ.then (PQ.then (PQ.blk (PQ.blk (PQ.then (PQ.then (PQ.blk (PQ.then PQ.body)))))))))) rfl (fun w => run_fieldAddr (q := (adr ra ((atR A u.lb.l) * 3 + 1))) (show fieldB Tryz.prog 99 1 = some 1 from by kernel_rfl) rfl (adr_add _ (by assumption) _ _)) ?_
         refine WD.takeOn (i := 17) rfollow_spec_t18 (bt 20 262143) s36 rfl rfl rfl (decide_eq_true g96) (by kernel_rfl) (PQ.then (PQ.blk (PQ.then (PQ.then (PQ.blk (PQ.blk (PQ.then (PQ.then (PQ.blk (PQ.then PQ.body)))))))))) rfl (fun w hs => run_load Ty.ag2 rfl ((hs.1).cell ((flat_get mrc_len har (j := 1) (by decide)).trans rfl))) ?_
         refine WD.pureOn (i := 18) rfollow_spec_t18 (bt 20 524287) rfl rfl rfl (decide_eq_true g96) (by kernel_rfl) (PQ.then (PQ.blk (PQ.then (PQ.then (PQ.blk (PQ.blk (PQ.then (PQ.then (PQ.blk (PQ.then PQ.body)))))))))) rfl (fun w => run_leq rfl rfl) ?_
         refine WD.pure (i := 19) rfollow_spec_t18 (bt 20 1048575) rfl rfl rfl (by kernel_rfl) (PQ.then (PQ.blk (PQ.then (PQ.then (PQ.blk (PQ.blk (PQ.then (PQ.then (PQ.blk (PQ.then PQ.body)))))))))) rfl (fun w => run_pickT rfl (decide_eq_true g96) rfl) ?_
         refine WD.done rfollow_spec_t18 (by kernel_rfl) ?_
         refine NX.go ?_
         refine WP.condP rfl (fun g108 => ?_) (fun g108 => ?_)
         ·
          refine WP.seq (WP.region rfl ?_)
          refine WO.asg rfl rfl ?_
          refine WO.nil (NX.go (WP.ret (NX.blkRet (NX.thenRet (NX.thenRet (NX.blkRet (NX.blkRet (NX.thenRet (NX.thenRet (NX.blkRet (NX.thenRet ?_)))))))))))
          refine NX.done (l := [.tmp 2]) rfl rfl ?_
          exact ⟨_, rfl, (fun h => by cases h), hS35.drop.drop.drop.drop.drop.drop.drop⟩
         ·
          refine WP.skip (NX.blk (NX.go (WP.region rfl ?_)))
          refine WO.mv rfl rfl ?_
          refine WO.val (run_add rfl rfl (IntWalk.i64_in _ (by omega))) rfl rfl rfl ?_
          refine WO.asg rfl rfl ?_
          refine WO.nil ?_
          exact NX.again (k + 1) ⟨by omega, (hS35.permT [2, 2, 3, 0, 0, 1, 0, 0, 0] (L' := (labA u.lb) :: (ptsA u.pt) :: cel g29 [Value.slice u.lb.a u.lb.l.length u.lb.cap, Value.int .i64 u.last, Value.slice u.pt.a u.pt.l.length u.pt.cap] 99 :: own ra A.length rc 99 3 (A.flatMap mrc) :: allA mrA A :: (rsA b1.rs) :: allA mrA b1.rs.l :: X :: allA blA bs :: L) rfl).drop.drop.drop⟩ (by show b1.rs.l.length - (k + 1) < b1.rs.l.length - k; omega) (Sub.cons rfl (Sub.cons rfl (Sub.cons rfl (Sub.consE rfl (by congr 1) (Sub.nil _)))))
        ·
         refine WD.off (i := 8) rfollow_spec_t18 (bt 20 511) rfl rfl rfl (decide_eq_false g96) (by kernel_rfl) (PQ.then (PQ.blk (PQ.then (PQ.then (PQ.blk (PQ.blk (PQ.then (PQ.then (PQ.blk (PQ.then PQ.body)))))))))) rfl ?_
         refine WD.off (i := 9) rfollow_spec_t18 (bt 20 1023) rfl rfl rfl (decide_eq_false g96) (by kernel_rfl) (PQ.then (PQ.blk (PQ.then (PQ.then (PQ.blk (PQ.blk (PQ.then (PQ.then (PQ.blk (PQ.then PQ.body)))))))))) rfl ?_
         refine WD.off (i := 10) rfollow_spec_t18 (bt 20 2047) rfl rfl rfl (decide_eq_false g96) (by kernel_rfl) (PQ.then (PQ.blk (PQ.then (PQ.then (PQ.blk (PQ.blk (PQ.then (PQ.then (PQ.blk (PQ.then PQ.body)))))))))) rfl ?_
         refine WD.off (i := 11) rfollow_spec_t18 (bt 20 4095) rfl rfl rfl (decide_eq_false g96) (by kernel_rfl) (PQ.then (PQ.blk (PQ.then (PQ.then (PQ.blk (PQ.blk (PQ.then (PQ.then (PQ.blk (PQ.then PQ.body)))))))))) rfl ?_
         refine WD.off (i := 12) rfollow_spec_t18 (bt 20 8191) rfl rfl rfl (decide_eq_false g96) (by kernel_rfl) (PQ.then (PQ.blk (PQ.then (PQ.then (PQ.blk (PQ.blk (PQ.then (PQ.then (PQ.blk (PQ.then PQ.body)))))))))) rfl ?_
         refine WD.off (i := 13) rfollow_spec_t18 (bt 20 16383) rfl rfl rfl (decide_eq_false g96) (by kernel_rfl) (PQ.then (PQ.blk (PQ.then (PQ.then (PQ.blk (PQ.blk (PQ.then (PQ.then (PQ.blk (PQ.then PQ.body)))))))))) rfl ?_
         refine WD.off (i := 14) rfollow_spec_t18 (bt 20 32767) rfl rfl rfl (decide_eq_false g96) (by kernel_rfl) (PQ.then (PQ.blk (PQ.then (PQ.then (PQ.blk (PQ.blk (PQ.then (PQ.then (PQ.blk (PQ.then PQ.body)))))))))) rfl ?_
         refine WD.off (i := 15) rfollow_spec_t18 (bt 20 65535) rfl rfl rfl (decide_eq_false g96) (by kernel_rfl) (PQ.then (PQ.blk (PQ.then (PQ.then (PQ.blk (PQ.blk (PQ.then (PQ.then (PQ.blk (PQ.then PQ.body)))))))))) rfl ?_
         refine WD.off (i := 16) rfollow_spec_t18 (bt 20 131071) rfl rfl rfl (decide_eq_false g96) (by kernel_rfl) (PQ.then (PQ.blk (PQ.then (PQ.then (PQ.blk (PQ.blk (PQ.then (PQ.then (PQ.blk (PQ.then PQ.body)))))))))) rfl ?_
         refine WD.off (i := 17) rfollow_spec_t18 (bt 20 262143) rfl rfl rfl (decide_eq_false g96) (by kernel_rfl) (PQ.then (PQ.blk (PQ.then (PQ.then (PQ.blk (PQ.blk (PQ.then (PQ.then (PQ.blk (PQ.then PQ.body)))))))))) rfl ?_
         refine WD.off (i := 18) rfollow_spec_t18 (bt 20 524287) rfl rfl rfl (decide_eq_false g96) (by kernel_rfl) (PQ.then (PQ.blk (PQ.then (PQ.then (PQ.blk (PQ.blk (PQ.then (PQ.then (PQ.blk (PQ.then PQ.body)))))))))) rfl ?_
         refine WD.pure (i := 19) rfollow_spec_t18 (bt 20 1048575) rfl rfl rfl (by kernel_rfl) (PQ.then (PQ.blk (PQ.then (PQ.then (PQ.blk (PQ.blk (PQ.then (PQ.then (PQ.blk (PQ.then PQ.body)))))))))) rfl (fun w => run_pickF rfl (decide_eq_false g96) rfl) ?_
         refine WD.done rfollow_spec_t18 (by kernel_rfl) ?_
         refine NX.go ?_
         refine WP.condF rfl rfl ?_
         refine WP.skip (NX.blk (NX.go (WP.region rfl ?_)))
         refine WO.mv rfl rfl ?_
         refine WO.val (run_add rfl rfl (IntWalk.i64_in _ (by omega))) rfl rfl rfl ?_
         refine WO.asg rfl rfl ?_
         refine WO.nil ?_
         exact NX.again (k + 1) ⟨by omega, (hS35.permT [2, 2, 3, 0, 0, 1, 0, 0, 0] (L' := (labA u.lb) :: (ptsA u.pt) :: cel g29 [Value.slice u.lb.a u.lb.l.length u.lb.cap, Value.int .i64 u.last, Value.slice u.pt.a u.pt.l.length u.pt.cap] 99 :: own ra A.length rc 99 3 (A.flatMap mrc) :: allA mrA A :: (rsA b1.rs) :: allA mrA b1.rs.l :: X :: allA blA bs :: L) rfl).drop.drop.drop⟩ (by show b1.rs.l.length - (k + 1) < b1.rs.l.length - k; omega) (Sub.cons rfl (Sub.cons rfl (Sub.cons rfl (Sub.consE rfl (by congr 1) (Sub.nil _)))))
       ·
        refine WD.off (i := 2) rfollow_spec_t18 (bt 20 7) rfl rfl rfl g90 (by kernel_rfl) (PQ.then (PQ.blk (PQ.then (PQ.then (PQ.blk (PQ.blk (PQ.then (PQ.then (PQ.blk (PQ.then PQ.body)))))))))) rfl ?_
        refine WD.off (i := 3) rfollow_spec_t18 (bt 20 15) rfl rfl rfl g90 (by kernel_rfl) (PQ.then (PQ.blk (PQ.then (PQ.then (PQ.blk (PQ.blk (PQ.then (PQ.then (PQ.blk (PQ.then PQ.body)))))))))) rfl ?_
        refine WD.off (i := 4) rfollow_spec_t18 (bt 20 31) rfl rfl rfl g90 (by kernel_rfl) (PQ.then (PQ.blk (PQ.then (PQ.then (PQ.blk (PQ.blk (PQ.then (PQ.then (PQ.blk (PQ.then PQ.body)))))))))) rfl ?_
        refine WD.off (i := 5) rfollow_spec_t18 (bt 20 63) rfl rfl rfl g90 (by kernel_rfl) (PQ.then (PQ.blk (PQ.then (PQ.then (PQ.blk (PQ.blk (PQ.then (PQ.then (PQ.blk (PQ.then PQ.body)))))))))) rfl ?_
        refine WD.pure (i := 6) rfollow_spec_t18 (bt 20 127) rfl rfl rfl (by kernel_rfl) (PQ.then (PQ.blk (PQ.then (PQ.then (PQ.blk (PQ.blk (PQ.then (PQ.then (PQ.blk (PQ.then PQ.body)))))))))) rfl (fun w => run_pickF rfl g90 rfl) ?_
        refine WD.pure (i := 7) rfollow_spec_t18 (bt 20 255) rfl rfl rfl (by kernel_rfl) (PQ.then (PQ.blk (PQ.then (PQ.then (PQ.blk (PQ.blk (PQ.then (PQ.then (PQ.blk (PQ.then PQ.body)))))))))) rfl (fun w => run_move rfl) ?_
        refine WD.off (i := 8) rfollow_spec_t18 (bt 20 511) rfl rfl rfl rfl (by kernel_rfl) (PQ.then (PQ.blk (PQ.then (PQ.then (PQ.blk (PQ.blk (PQ.then (PQ.then (PQ.blk (PQ.then PQ.body)))))))))) rfl ?_
        refine WD.off (i := 9) rfollow_spec_t18 (bt 20 1023) rfl rfl rfl rfl (by kernel_rfl) (PQ.then (PQ.blk (PQ.then (PQ.then (PQ.blk (PQ.blk (PQ.then (PQ.then (PQ.blk (PQ.then PQ.body)))))))))) rfl ?_
        refine WD.off (i := 10) rfollow_spec_t18 (bt 20 2047) rfl rfl rfl rfl (by kernel_rfl) (PQ.then (PQ.blk (PQ.then (PQ.then (PQ.blk (PQ.blk (PQ.then (PQ.then (PQ.blk (PQ.then PQ.body)))))))))) rfl ?_
        refine WD.off (i := 11) rfollow_spec_t18 (bt 20 4095) rfl rfl rfl rfl (by kernel_rfl) (PQ.then (PQ.blk (PQ.then (PQ.then (PQ.blk (PQ.blk (PQ.then (PQ.then (PQ.blk (PQ.then PQ.body)))))))))) rfl ?_
        refine WD.off (i := 12) rfollow_spec_t18 (bt 20 8191) rfl rfl rfl rfl (by kernel_rfl) (PQ.then (PQ.blk (PQ.then (PQ.then (PQ.blk (PQ.blk (PQ.then (PQ.then (PQ.blk (PQ.then PQ.body)))))))))) rfl ?_
        refine WD.off (i := 13) rfollow_spec_t18 (bt 20 16383) rfl rfl rfl rfl (by kernel_rfl) (PQ.then (PQ.blk (PQ.then (PQ.then (PQ.blk (PQ.blk (PQ.then (PQ.then (PQ.blk (PQ.then PQ.body)))))))))) rfl ?_
        refine WD.off (i := 14) rfollow_spec_t18 (bt 20 32767) rfl rfl rfl rfl (by kernel_rfl) (PQ.then (PQ.blk (PQ.then (PQ.then (PQ.blk (PQ.blk (PQ.then (PQ.then (PQ.blk (PQ.then PQ.body)))))))))) rfl ?_
        refine WD.off (i := 15) rfollow_spec_t18 (bt 20 65535) rfl rfl rfl rfl (by kernel_rfl) (PQ.then (PQ.blk (PQ.then (PQ.then (PQ.blk (PQ.blk (PQ.then (PQ.then (PQ.blk (PQ.then PQ.body)))))))))) rfl ?_
        refine WD.off (i := 16) rfollow_spec_t18 (bt 20 131071) rfl rfl rfl rfl (by kernel_rfl) (PQ.then (PQ.blk (PQ.then (PQ.then (PQ.blk (PQ.blk (PQ.then (PQ.then (PQ.blk (PQ.then PQ.body)))))))))) rfl ?_
        refine WD.off (i := 17) rfollow_spec_t18 (bt 20 262143) rfl rfl rfl rfl (by kernel_rfl) (PQ.then (PQ.blk (PQ.then (PQ.then (PQ.blk (PQ.blk (PQ.then (PQ.then (PQ.blk (PQ.then PQ.body)))))))))) rfl ?_
        refine WD.off (i := 18) rfollow_spec_t18 (bt 20 524287) rfl rfl rfl rfl (by kernel_rfl) (PQ.then (PQ.blk (PQ.then (PQ.then (PQ.blk (PQ.blk (PQ.then (PQ.then (PQ.blk (PQ.then PQ.body)))))))))) rfl ?_
        refine WD.pure (i := 19) rfollow_spec_t18 (bt 20 1048575) rfl rfl rfl (by kernel_rfl) (PQ.then (PQ.blk (PQ.then (PQ.then (PQ.blk (PQ.blk (PQ.then (PQ.then (PQ.blk (PQ.then PQ.body)))))))))) rfl (fun w => run_pickF rfl rfl rfl) ?_
        refine WD.done rfollow_spec_t18 (by kernel_rfl) ?_
        refine NX.go ?_
        refine WP.condF rfl rfl ?_
        refine WP.skip (NX.blk (NX.go (WP.region rfl ?_)))
        refine WO.mv rfl rfl ?_
        refine WO.val (run_add rfl rfl (IntWalk.i64_in _ (by omega))) rfl rfl rfl ?_
        refine WO.asg rfl rfl ?_
        refine WO.nil ?_
        exact NX.again (k + 1) ⟨by omega, (hS35.permT [2, 2, 3, 0, 0, 1, 0, 0, 0] (L' := (labA u.lb) :: (ptsA u.pt) :: cel g29 [Value.slice u.lb.a u.lb.l.length u.lb.cap, Value.int .i64 u.last, Value.slice u.pt.a u.pt.l.length u.pt.cap] 99 :: own ra A.length rc 99 3 (A.flatMap mrc) :: allA mrA A :: (rsA b1.rs) :: allA mrA b1.rs.l :: X :: allA blA bs :: L) rfl).drop.drop.drop⟩ (by show b1.rs.l.length - (k + 1) < b1.rs.l.length - k; omega) (Sub.cons rfl (Sub.cons rfl (Sub.cons rfl (Sub.consE rfl (by congr 1) (Sub.nil _)))))
      ·
       refine WP.exit (NX.thenExit (NX.thenExit ?_))
       refine NX.blkExit ?_
       refine NX.blk (NX.go (WP.region rfl ?_))
       refine WO.mv rfl rfl ?_
       refine WO.val (run_add rfl rfl (IntWalk.i64_in _ (by omega))) rfl rfl rfl ?_
       refine WO.asg rfl rfl ?_
       refine WO.nil ?_
       exact NX.again (i + 1) ⟨by omega, hS27.drop.drop.drop.drop⟩ (by show bs.length - (i + 1) < bs.length - i; omega) (Sub.cons rfl (Sub.consE rfl (by congr 1) (Sub.nil _)))
   ·
    refine WD.off (i := 3) rfollow_spec_t10 (bt 29 15) rfl rfl rfl (decide_eq_false g33) (by kernel_rfl) (PQ.then (PQ.then (PQ.blk (PQ.then (PQ.then (PQ.blk (PQ.then PQ.body))))))) rfl ?_
    refine WD.off (i := 4) rfollow_spec_t10 (bt 29 31) rfl rfl rfl (decide_eq_false g33) (by kernel_rfl) (PQ.then (PQ.then (PQ.blk (PQ.then (PQ.then (PQ.blk (PQ.then PQ.body))))))) rfl ?_
    refine WD.off (i := 5) rfollow_spec_t10 (bt 29 63) rfl rfl rfl (decide_eq_false g33) (by kernel_rfl) (PQ.then (PQ.then (PQ.blk (PQ.then (PQ.then (PQ.blk (PQ.then PQ.body))))))) rfl ?_
    refine WD.off (i := 6) rfollow_spec_t10 (bt 29 127) rfl rfl rfl (decide_eq_false g33) (by kernel_rfl) (PQ.then (PQ.then (PQ.blk (PQ.then (PQ.then (PQ.blk (PQ.then PQ.body))))))) rfl ?_
    refine WD.off (i := 7) rfollow_spec_t10 (bt 29 255) rfl rfl rfl (decide_eq_false g33) (by kernel_rfl) (PQ.then (PQ.then (PQ.blk (PQ.then (PQ.then (PQ.blk (PQ.then PQ.body))))))) rfl ?_
    refine WD.off (i := 8) rfollow_spec_t10 (bt 29 511) rfl rfl rfl (decide_eq_false g33) (by kernel_rfl) (PQ.then (PQ.then (PQ.blk (PQ.then (PQ.then (PQ.blk (PQ.then PQ.body))))))) rfl ?_
    refine WD.pure (i := 9) rfollow_spec_t10 (bt 29 1023) rfl rfl rfl (by kernel_rfl) (PQ.then (PQ.then (PQ.blk (PQ.then (PQ.then (PQ.blk (PQ.then PQ.body))))))) rfl (fun w => run_pickF rfl (decide_eq_false g33) rfl) ?_
    refine WD.pure (i := 10) rfollow_spec_t10 (bt 29 2047) rfl rfl rfl (by kernel_rfl) (PQ.then (PQ.then (PQ.blk (PQ.then (PQ.then (PQ.blk (PQ.then PQ.body))))))) rfl (fun w => run_move rfl) ?_
    refine WD.pureOn (i := 11) rfollow_spec_t10 (bt 29 4095) rfl rfl rfl rfl (by kernel_rfl) (PQ.then (PQ.then (PQ.blk (PQ.then (PQ.then (PQ.blk (PQ.then PQ.body))))))) rfl (fun w => run_move rfl) ?_
    refine WD.pureOn (i := 12) rfollow_spec_t10 (bt 29 8191) rfl rfl rfl rfl (by kernel_rfl) (PQ.then (PQ.then (PQ.blk (PQ.then (PQ.then (PQ.blk (PQ.then PQ.body))))))) rfl (fun w => run_gtr rfl rfl) ?_
    refine WD.pureOn (i := 13) rfollow_spec_t10 (bt 29 16383) rfl rfl rfl rfl (by kernel_rfl) (PQ.then (PQ.then (PQ.blk (PQ.then (PQ.then (PQ.blk (PQ.then PQ.body))))))) rfl (fun w => run_move rfl) ?_
    by_cases g44 : 0 < (i : Int)
    ·
     obtain ⟨qb, hq1⟩ := hqe (by omega)
     have hqt := checkB_to (hchk qb (List.mem_of_getElem? hq1))
     refine WD.pureOn (i := 14) rfollow_spec_t10 (bt 29 32767) rfl rfl rfl (decide_eq_true g44) (by kernel_rfl) (PQ.then (PQ.then (PQ.blk (PQ.then (PQ.then (PQ.blk (PQ.then PQ.body))))))) rfl (fun w => run_move rfl) ?_
     refine WD.pureOn (i := 15) rfollow_spec_t10 (bt 29 65535) rfl rfl rfl (decide_eq_true g44) (by kernel_rfl) (PQ.then (PQ.then (PQ.blk (PQ.then (PQ.then (PQ.blk (PQ.then PQ.body))))))) rfl (fun w => run_move rfl) ?_
     refine WD.takeOn (i := 16) rfollow_spec_t10 (bt 29 131071) s7 rfl rfl rfl (decide_eq_true g44) (by kernel_rfl) (PQ.then (PQ.then (PQ.blk (PQ.then (PQ.then (PQ.blk (PQ.then PQ.body))))))) rfl (fun w hs => run_indexAddr (q := adr a (i * 4)) Tryz.underlying22 Ty.sz51 rfl rfl (by omega) (by omega) ((hs).2.1 (by omega)) rfl) ?_
     refine WD.pureOn (i := 17) rfollow_spec_t10 (bt 29 262143) rfl rfl rfl (decide_eq_true g44) (by kernel_rfl) (PQ.then (PQ.then (PQ.blk (PQ.then (PQ.then (PQ.blk (PQ.then PQ.body))))))) rfl (fun w => run_fieldAddr (q := (adr a (i * 4 + 0))) (show fieldB Tryz.prog 51 0 = some 0 from by kernel_rfl) rfl (adr_add _ (by assumption) _ _)) ?_
     refine WD.takeOn (i := 18) rfollow_spec_t10 (bt 29 524287) s7 rfl rfl rfl (decide_eq_true g44) (by kernel_rfl) (PQ.then (PQ.then (PQ.blk (PQ.then (PQ.then (PQ.blk (PQ.then PQ.body))))))) rfl (fun w hs => run_load Ty.ag3 rfl ((hs).cell ((flat_get blc_len hb1 (j := 0) (by decide)).trans rfl))) ?_
     refine WD.pureOn (i := 19) rfollow_spec_t10 (bt 29 1048575) rfl rfl rfl (decide_eq_true g44) (by kernel_rfl) (PQ.then (PQ.then (PQ.blk (PQ.then (PQ.then (PQ.blk (PQ.then PQ.body))))))) rfl (fun w => run_move rfl) ?_
     refine WD.pureOn (i := 20) rfollow_spec_t10 (bt 29 2097151) rfl rfl rfl (decide_eq_true g44) (by kernel_rfl) (PQ.then (PQ.then (PQ.blk (PQ.then (PQ.then (PQ.blk (PQ.then PQ.body))))))) rfl (fun w => run_move rfl) ?_
     refine WD.pureOn (i := 21) rfollow_spec_t10 (bt 29 4194303) rfl rfl rfl (decide_eq_true g44) (by kernel_rfl) (PQ.then (PQ.then (PQ.blk (PQ.then (PQ.then (PQ.blk (PQ.then PQ.body))))))) rfl (fun w => run_sub rfl rfl (IntWalk.i64_in _ (by omega))) ?_
     refine WD.takeOn (i := 22) rfollow_spec_t10 (bt 29 8388607) s7 rfl rfl rfl (decide_eq_true g44) (by kernel_rfl) (PQ.then (PQ.then (PQ.blk (PQ.then (PQ.then (PQ.blk (PQ.then PQ.body))))))) rfl (fun w hs => run_indexAddr (q := adr a ((i - 1) * 4)) Tryz.underlying22 Ty.sz51 rfl rfl (by omega) (by omega) ((hs).2.1 (by omega)) (by rw [show ((i : Int) - 1).toNat = i - 1 by omega])) ?_
     refine WD.pureOn (i := 23) rfollow_spec_t10 (bt 29 16777215) rfl rfl rfl (decide_eq_true g44) (by kernel_rfl) (PQ.then (PQ.then (PQ.blk (PQ.then (PQ.then (PQ.blk (PQ.then PQ.body))))))) rfl (fun w => run_fieldAddr (q := (adr a ((i - 1) * 4 + 1))) (show fieldB Tryz.prog 51 1 = some 1 from by kernel_rfl) rfl (adr_add _ (by assumption) _ _)) ?_
     refine WD.takeOn (i := 24) rfollow_spec_t10 (bt 29 33554431) s7 rfl rfl rfl (decide_eq_true g44) (by kernel_rfl) (PQ.then (PQ.then (PQ.blk (PQ.then (PQ.then (PQ.blk (PQ.then PQ.body))))))) rfl (fun w hs => run_load Ty.ag3 rfl ((hs).cell ((flat_get blc_len hq1 (j := 1) (by decide)).trans rfl))) ?_
     refine WD.pureOn (i := 25) rfollow_spec_t10 (bt 29 67108863) rfl rfl rfl (decide_eq_true g44) (by kernel_rfl) (PQ.then (PQ.then (PQ.blk (PQ.then (PQ.then (PQ.blk (PQ.then PQ.body))))))) rfl (fun w => run_add rfl rfl (IntWalk.i64_in _ (by omega))) ?_
     refine WD.pureOn (i := 26) rfollow_spec_t10 (bt 29 134217727) rfl rfl rfl (decide_eq_true g44) (by kernel_rfl) (PQ.then (PQ.then (PQ.blk (PQ.then (PQ.then (PQ.blk (PQ.then PQ.body))))))) rfl (fun w => run_neq rfl rfl) ?_
     refine WD.pureOn (i := 27) rfollow_spec_t10 (bt 29 268435455) rfl rfl rfl rfl (by kernel_rfl) (PQ.then (PQ.then (PQ.blk (PQ.then (PQ.then (PQ.blk (PQ.then PQ.body))))))) rfl (fun w => run_pickT rfl (decide_eq_true g44) rfl) ?_
     refine WD.pure (i := 28) rfollow_spec_t10 (bt 29 536870911) rfl rfl rfl (by kernel_rfl) (PQ.then (PQ.then (PQ.blk (PQ.then (PQ.then (PQ.blk (PQ.then PQ.body))))))) rfl (fun w => run_pickF rfl rfl rfl) ?_
     refine WD.done rfollow_spec_t10 (by kernel_rfl) ?_
     refine NX.go ?_
     refine WP.condP rfl (fun g59 => ?_) (fun g59 => ?_)
     ·
      refine WP.seq (WP.region rfl ?_)
      refine WO.asg rfl rfl ?_
      refine WO.nil (NX.go (WP.ret (NX.thenRet (NX.blkRet (NX.thenRet (NX.thenRet (NX.blkRet (NX.thenRet ?_))))))))
      refine NX.done (l := [.tmp 2]) rfl rfl ?_
      exact ⟨_, rfl, (fun h => by cases h), hS6⟩
     ·
      refine WP.skip (NX.go (WP.seq ?_))
      have hzb := hbz b1 (List.mem_of_getElem? hb1)
      have hnr := hzb.nr
      refine WP.region rfl ?_
      refine WO.mv rfl rfl ?_
      refine WO.mv rfl rfl ?_
      refine WO.val (run_sliceTo (j := i) Tryz.underlying22 Ty.sz51 rfl ⟨_, rfl⟩ (by omega)) rfl rfl rfl ?_
      refine WO.as (d := 62) (v := Value.slice a ((bs.take i).length) cap) rfl (by rw [List.length_take, Nat.min_eq_left hi]) ?_
      refine WO.call rfl rfl Ty.hd28 rfl (rlasts_spec (cs := bs) (rd_takeB hX hi) (fun b hb => List.mem_of_mem_take hb) (fun b hb => hbz b (List.mem_of_mem_take hb)) (by rw [List.length_take]; omega) (by have h9 := (tots (fun b hb => hchk b (List.mem_of_mem_take hb)) (fun b hb => hwg b (List.mem_of_mem_take (i := i) hb))).1; rw [List.length_take] at h9; omega) hS6) (fun v38 w37 pv38 => ?_)
      obtain ⟨ra, rc, A, rfl, hA, hAn, hAl, hS37⟩ := pv38
      clear hS6
      refine WO.asg rfl rfl ?_
      refine WO.nil (NX.go (WP.seq ?_))
      have hS39 := blA_get (List.mem_of_getElem? hb1) (hS37.permT [3, 0, 0, 0] (L' := allA blA bs :: own ra A.length rc 99 3 (A.flatMap mrc) :: allA mrA A :: X :: L) rfl)
      clear hS37
      have hS40 : St B ((rsA b1.rs) :: allA mrA b1.rs.l :: allA blA bs :: own ra A.length rc 99 3 (A.flatMap mrc) :: allA mrA A :: X :: L) w37 := (hS39.permT [2, 2, 0, 0, 0, 0, 0, 0] (L' := (dsA b1.ds) :: allA recA b1.ds.l :: (rsA b1.rs) :: allA mrA b1.rs.l :: allA blA bs :: own ra A.length rc 99 3 (A.flatMap mrc) :: allA mrA A :: X :: L) rfl).drop.drop
      clear hS39
      refine WP.region rfl ?_
      refine WO.asg rfl rfl ?_
      refine WO.nil (NX.go (WP.block ?_))
      refine WP.loop (α := Nat) (fun x => match x with | k => [(0, Value.slice a bs.length cap), (5, Value.int .i64 (i : Int)), (6, Value.slice ra A.length rc), (7, Value.int .i64 (k : Int))]) (fun x w => match x with | k => (k ≤ b1.rs.l.length) ∧ St B (own ra A.length rc 99 3 (A.flatMap mrc) :: allA mrA A :: (rsA b1.rs) :: allA mrA b1.rs.l :: X :: allA blA bs :: L) w) (fun x => match x with | k => b1.rs.l.length - k) 0 ⟨Nat.zero_le _, (hS40.permT [3, 3, 0, 0, 1, 0] (L' := own ra A.length rc 99 3 (A.flatMap mrc) :: allA mrA A :: (rsA b1.rs) :: allA mrA b1.rs.l :: X :: allA blA bs :: L) rfl)⟩ (Sub.cons rfl (Sub.cons rfl (Sub.cons rfl (Sub.consE rfl (by first | rfl | first | rfl | (congr 1; omega) | (simp; done) | (simp; omega)) (Sub.nil _))))) ?_
      rintro k w41 ⟨hk, hS41⟩
      clear hS40
      refine WP.seq (WP.seq ?_)
      have hsa : a.isSome = true := rd_isSome ((hX (hS41.focus 4 rfl))) (by omega)
      refine WP.region rfl ?_
      refine WO.mv rfl rfl ?_
      refine WO.mv rfl rfl ?_
      refine WO.mv rfl rfl ?_
      refine WO.val (run_indexAddr (q := adr a (i * 4)) Tryz.underlying22 Ty.sz51 rfl rfl (by omega) (by omega) ((hX (hS41.focus 4 rfl)).2.1 (by omega)) rfl) rfl rfl rfl ?_
      refine WO.val (run_fieldAddr (q := (adr a (i * 4 + 2))) (show fieldB Tryz.prog 51 2 = some 2 from by kernel_rfl) rfl (adr_add _ (by assumption) _ _)) rfl rfl rfl ?_
      refine WO.val (run_load Ty.ag49 rfl ((hX (hS41.focus 4 rfl)).cell ((flat_get blc_len hb1 (j := 2) (by decide)).trans rfl))) rfl rfl rfl ?_
      refine WO.val (run_len rfl Tryz.underlying49 rfl) rfl rfl rfl ?_
      refine WO.val (run_lss rfl rfl) rfl rfl rfl ?_
      refine WO.nil (NX.go ?_)
      refine WP.condP rfl (fun g71 => ?_) (fun g71 => ?_)
      ·
       refine WP.skip (NX.go (WP.seq (WP.block (WP.seq ?_))))
       obtain ⟨u, hu⟩ : ∃ qq, b1.rs.l[k]? = some qq := ⟨_, List.getElem?_eq_getElem (by omega)⟩
       have hzu := hzb.r u (List.mem_of_getElem? hu)
       refine WP.region rfl ?_
       refine WO.mv rfl rfl ?_
       refine WO.mv rfl rfl ?_
       refine WO.val (run_indexAddr (q := adr a (i * 4)) Tryz.underlying22 Ty.sz51 rfl rfl (by omega) (by omega) ((hX (hS41.focus 4 rfl)).2.1 (by omega)) rfl) rfl rfl rfl ?_
       refine WO.val (run_fieldAddr (q := (adr a (i * 4 + 2))) (show fieldB Tryz.prog 51 2 = some 2 from by kernel_rfl) rfl (adr_add _ (by assumption) _ _)) rfl rfl rfl ?_
       refine WO.val (run_load Ty.ag49 rfl ((hX (hS41.focus 4 rfl)).cell ((flat_get blc_len hb1 (j := 2) (by decide)).trans rfl))) rfl rfl rfl ?_
       refine WO.mv rfl rfl ?_
       refine WO.val (run_indexAddr (q := adr b1.rs.a (k * 3)) Tryz.underlying49 Ty.sz99 rfl rfl (by omega) (by omega) ((rdH_rd (hS41.focus 2 rfl)).2.1 (by omega)) rfl) rfl rfl rfl ?_
       refine WO.val (run_loadAgg (vs := [Value.slice u.lb.a u.lb.l.length u.lb.cap, Value.int .i64 u.last, Value.slice u.pt.a u.pt.l.length u.pt.cap]) Ty.ag99 Ty.sz99 rfl ((rdH_rd (hS41.focus 2 rfl)).cells (by rw [flat_len mrc_len]; omega) (flat_part mrc_len hu)).1 ((rdH_rd (hS41.focus 2 rfl)).cells (by rw [flat_len mrc_len]; omega) (flat_part mrc_len hu)).2) rfl rfl rfl ?_
       refine WO.alloc (l := [Value.slice none 0 0, Value.int .i64 0, Value.slice none 0 0]) hS41 Ty.zr99 rfl rfl (fun g43 w42 lg43 hS42 => ?_)
       clear hS41
       refine WO.store (l' := [Value.slice u.lb.a u.lb.l.length u.lb.cap, Value.int .i64 u.last, Value.slice u.pt.a u.pt.l.length u.pt.cap]) 0 hS42 rfl Ty.sz99 rfl rfl rfl rfl rfl (Nat.le_of_ble_eq_true rfl) rfl (fun w44 (hS44 : St B (cel g43 [Value.slice u.lb.a u.lb.l.length u.lb.cap, Value.int .i64 u.last, Value.slice u.pt.a u.pt.l.length u.pt.cap] 99 :: own ra A.length rc 99 3 (A.flatMap mrc) :: allA mrA A :: (rsA b1.rs) :: allA mrA b1.rs.l :: X :: allA blA bs :: L) w44) => ?_)
       clear hS42
       refine WO.nil (NX.go (WP.seq ?_))
       have hS45 := mrA_get (List.mem_of_getElem? hu) (hS44.permT [4, 0, 0, 0, 0, 0, 0] (L' := allA mrA b1.rs.l :: cel g43 [Value.slice u.lb.a u.lb.l.length u.lb.cap, Value.int .i64 u.last, Value.slice u.pt.a u.pt.l.length u.pt.cap] 99 :: own ra A.length rc 99 3 (A.flatMap mrc) :: allA mrA A :: (rsA b1.rs) :: X :: allA blA bs :: L) rfl)
       clear hS44
       refine WP.region rfl ?_
       refine WO.mv rfl rfl ?_
       refine WO.val (run_fieldAddr (q := ⟨g43, 0, none⟩) (show fieldB Tryz.prog 99 0 = some 0 from by kernel_rfl) rfl rfl) rfl rfl rfl ?_
       refine WO.val (run_load Ty.ag65 rfl ((hS45.cel_at 3 rfl 0).trans rfl)) rfl rfl rfl ?_
       have hS46 := hS45.permT [4, 4, 0, 0, 0, 0, 0, 0, 0] (L' := own ra A.length rc 99 3 (A.flatMap mrc) :: allA mrA A :: (labA u.lb) :: (ptsA u.pt) :: allA mrA b1.rs.l :: cel g43 [Value.slice u.lb.a u.lb.l.length u.lb.cap, Value.int .i64 u.last, Value.slice u.pt.a u.pt.l.length u.pt.cap] 99 :: (rsA b1.rs) :: X :: allA blA bs :: L) rfl
       clear hS45
       refine WO.call rfl rfl Ty.hd48 rfl (rat_spec (X := own ra A.length rc 99 3 (A.flatMap mrc)) (fun h => h.own_rd.1) rdH_rd (by omega) hAl hzu.1 hS46) (fun v48 w47 pv48 => ?_)
       obtain ⟨rfl, hS47⟩ := pv48
       clear hS46
       refine WO.mv rfl rfl ?_
       refine WO.val (run_extract rfl rfl) rfl rfl rfl ?_
       refine WO.val (run_extract rfl rfl) rfl rfl rfl ?_
       refine WO.asg rfl rfl ?_
       refine WO.asg rfl rfl ?_
       refine WO.nil (NX.go (WP.seq ?_))
       refine WD.start (fun w => Rd w ra A.length 3 (A.flatMap mrc) ∧ Rd w u.lb.a u.lb.l.length 2 (u.lb.l.flatMap prc) ∧ Rd w u.pt.a u.pt.l.length 2 (u.pt.l.flatMap ptc) ∧ (∀ jz, World.cell? w ⟨g43, jz, none⟩ = [Value.slice u.lb.a u.lb.l.length u.lb.cap, Value.int .i64 u.last, Value.slice u.pt.a u.pt.l.length u.pt.cap][jz]?) ∧ Rd w b1.rs.a b1.rs.l.length 3 (b1.rs.l.flatMap mrc) ∧ Rd w a bs.length 4 (bs.flatMap blc)) [] (bt 20 0) Ty.mo rfl (by kernel_rfl) hS47 (fun _ h => ⟨(h.own_rd_i 0 rfl), (rdH_rd (h.focus 2 rfl)), (rdH_rd (h.focus 3 rfl)), h.cel_at 5 rfl, (rdH_rd (h.focus 6 rfl)), (hX (h.focus 7 rfl))⟩) (fun w49 hS49 s50 => ?_)
       clear hS47
       refine WD.pure (i := 0) rfollow_spec_t18 (bt 20 1) rfl rfl rfl (by kernel_rfl) (PQ.then (PQ.blk (PQ.then (PQ.then (PQ.blk (PQ.blk (PQ.then (PQ.then (PQ.blk (PQ.then PQ.body)))))))))) rfl (fun w => run_move rfl) ?_
       refine WD.pure (i := 1) rfollow_spec_t18 (bt 20 3) rfl rfl rfl (by kernel_rfl) (PQ.then (PQ.blk (PQ.then (PQ.then (PQ.blk (PQ.blk (PQ.then (PQ.then (PQ.blk (PQ.then PQ.body)))))))))) rfl (fun w => run_move rfl) ?_
       rcases Bool.eq_false_or_eq_true (hasR A u.lb.l) with g90 | g90
       ·
        obtain ⟨ar, har⟩ := has_some g90
        have halt := (List.getElem?_eq_some_iff.1 har).1
        have hsra : ra.isSome = true := rd_isSome ((hS49.own_rd_i 0 rfl)) (by omega)
        refine WD.pureOn (i := 2) rfollow_spec_t18 (bt 20 7) rfl rfl rfl g90 (by kernel_rfl) (PQ.then (PQ.blk (PQ.then (PQ.then (PQ.blk (PQ.blk (PQ.then (PQ.then (PQ.blk (PQ.then PQ.body)))))))))) rfl (fun w => run_fieldAddr (q := ⟨g43, 2, none⟩) (show fieldB Tryz.prog 99 2 = some 2 from by kernel_rfl) rfl rfl) ?_
        refine WD.takeOn (i := 3) rfollow_spec_t18 (bt 20 15) s50 rfl rfl rfl g90 (by kernel_rfl) (PQ.then (PQ.blk (PQ.then (PQ.then (PQ.blk (PQ.blk (PQ.then (PQ.then (PQ.blk (PQ.then PQ.body)))))))))) rfl (fun w hs => run_load Ty.ag66 rfl ((hs.2.2.2.1 2).trans rfl)) ?_
        refine WD.pureOn (i := 4) rfollow_spec_t18 (bt 20 31) rfl rfl rfl g90 (by kernel_rfl) (PQ.then (PQ.blk (PQ.then (PQ.then (PQ.blk (PQ.blk (PQ.then (PQ.then (PQ.blk (PQ.then PQ.body)))))))))) rfl (fun w => run_len rfl Tryz.underlying66 rfl) ?_
        refine WD.pureOn (i := 5) rfollow_spec_t18 (bt 20 63) rfl rfl rfl g90 (by kernel_rfl) (PQ.then (PQ.blk (PQ.then (PQ.then (PQ.blk (PQ.blk (PQ.then (PQ.then (PQ.blk (PQ.then PQ.body)))))))))) rfl (fun w => run_gtr rfl rfl) ?_
        refine WD.pure (i := 6) rfollow_spec_t18 (bt 20 127) rfl rfl rfl (by kernel_rfl) (PQ.then (PQ.blk (PQ.then (PQ.then (PQ.blk (PQ.blk (PQ.then (PQ.then (PQ.blk (PQ.then PQ.body)))))))))) rfl (fun w => run_pickT rfl g90 rfl) ?_
        refine WD.pure (i := 7) rfollow_spec_t18 (bt 20 255) rfl rfl rfl (by kernel_rfl) (PQ.then (PQ.blk (PQ.then (PQ.then (PQ.blk (PQ.blk (PQ.then (PQ.then (PQ.blk (PQ.then PQ.body)))))))))) rfl (fun w => run_move rfl) ?_
        by_cases g96 : 0 < ((u.pt.l.length : Nat) : Int)
        ·
         obtain ⟨p0, hp0⟩ : ∃ qq, u.pt.l[0]? = some qq := ⟨_, List.getElem?_eq_getElem (by omega)⟩
         have hsp : u.pt.a.isSome = true := rd_isSome ((rdH_rd (hS49.focus 3 rfl))) (by omega)
         refine WD.pureOn (i := 8) rfollow_spec_t18 (bt 20 511) rfl rfl rfl (decide_eq_true g96) (by kernel_rfl) (PQ.then (PQ.blk (PQ.then (PQ.then (PQ.blk (PQ.blk (PQ.then (PQ.then (PQ.blk (PQ.then PQ.body)))))))))) rfl (fun w => run_fieldAddr (q := ⟨g43, 2, none⟩) (show fieldB Tryz.prog 99 2 = some 2 from by kernel_rfl) rfl rfl) ?_
         refine WD.takeOn (i := 9) rfollow_spec_t18 (bt 20 1023) s50 rfl rfl rfl (decide_eq_true g96) (by kernel_rfl) (PQ.then (PQ.blk (PQ.then (PQ.then (PQ.blk (PQ.blk (PQ.then (PQ.then (PQ.blk (PQ.then PQ.body)))))))))) rfl (fun w hs => run_load Ty.ag66 rfl ((hs.2.2.2.1 2).trans rfl)) ?_
         refine WD.takeOn (i := 10) rfollow_spec_t18 (bt 20 2047) s50 rfl rfl rfl (decide_eq_true g96) (by kernel_rfl) (PQ.then (PQ.blk (PQ.then (PQ.then (PQ.blk (PQ.blk (PQ.then (PQ.then (PQ.blk (PQ.then PQ.body)))))))))) rfl (fun w hs => run_indexAddr (q := adr u.pt.a (0 * 2)) Tryz.underlying66 Ty.sz103 rfl rfl (by omega) (by omega) ((hs.2.2.1).2.1 (by omega)) rfl) ?_
         refine WD.pureOn (i := 11) rfollow_spec_t18 (bt 20 4095) rfl rfl rfl (decide_eq_true g96) (by kernel_rfl) (PQ.then (PQ.blk (PQ.then (PQ.then (PQ.blk (PQ.blk (PQ.then (PQ.then (PQ.blk (PQ.then PQ.body)))))))))) rfl (fun w => run_fieldAddr (q := (adr u.pt.a (0 * 2 + 0))) (show fieldB Tryz.prog 103 0 = some 0 from by kernel_rfl) rfl (adr_add _ (by assumption) _ _)) ?_
         refine WD.takeOn (i := 12) rfollow_spec_t18 (bt 20 8191) s50 rfl rfl rfl (decide_eq_true g96) (by kernel_rfl) (PQ.then (PQ.blk (PQ.then (PQ.then (PQ.blk (PQ.blk (PQ.then (PQ.then (PQ.blk (PQ.then PQ.body)))))))))) rfl (fun w hs => run_load Ty.ag2 rfl ((hs.2.2.1).cell ((flat_get ptc_len hp0 (j := 0) (by decide)).trans rfl))) ?_
         refine WD.pureOn (i := 13) rfollow_spec_t18 (bt 20 16383) rfl rfl rfl (decide_eq_true g96) (by kernel_rfl) (PQ.then (PQ.blk (PQ.then (PQ.then (PQ.blk (PQ.blk (PQ.then (PQ.then (PQ.blk (PQ.then PQ.body)))))))))) rfl (fun w => run_move rfl) ?_
         refine WD.pureOn (i := 14) rfollow_spec_t18 (bt 20 32767) rfl rfl rfl (decide_eq_true g96) (by kernel_rfl) (PQ.then (PQ.blk (PQ.then (PQ.then (PQ.blk (PQ.blk (PQ.then (PQ.then (PQ.blk (PQ.then PQ.body)))))))))) rfl (fun w => run_move rfl) ?_
         refine WD.takeOn (i := 15) rfollow_spec_t18 (bt 20 65535) s50 rfl rfl rfl (decide_eq_true g96) (by kernel_rfl) (PQ.then (PQ.blk (PQ.then (PQ.then (PQ.blk (PQ.blk (PQ.then (PQ.then (PQ.blk (PQ.then PQ.body)))))))))) rfl (fun w hs => run_indexAddr (q := adr ra ((atR A u.lb.l) * 3)) Tryz.underlying49 Ty.sz99 rfl rfl (by omega) (by omega) ((hs.1).2.1 (by omega)) rfl) ?_
         refine WD.pureOn (i := 16) rfollow_spec_t18 (bt 20 131071) rfl rfl rfl (decide_eq_true g96) (by kernel_rfl) (PQ.then (PQ.blk (PQ.then (PQ.then (PQ.blk (PQ.blk (PQ.then (PQ.then (PQ.blk (PQ.then PQ.body)))))))))) rfl (fun w => run_fieldAddr (q := (adr ra ((atR A u.lb.l) * 3 + 1))) (show fieldB Tryz.prog 99 1 = some 1 from by kernel_rfl) rfl (adr_add _ (by assumption) _ _)) ?_
         refine WD.takeOn (i := 17) rfollow_spec_t18 (bt 20 262143) s50 rfl rfl rfl (decide_eq_true g96) (by kernel_rfl) (PQ.then (PQ.blk (PQ.then (PQ.then (PQ.blk (PQ.blk (PQ.then (PQ.then (PQ.blk (PQ.then PQ.body)))))))))) rfl (fun w hs => run_load Ty.ag2 rfl ((hs.1).cell ((flat_get mrc_len har (j := 1) (by decide)).trans rfl))) ?_
         refine WD.pureOn (i := 18) rfollow_spec_t18 (bt 20 524287) rfl rfl rfl (decide_eq_true g96) (by kernel_rfl) (PQ.then (PQ.blk (PQ.then (PQ.then (PQ.blk (PQ.blk (PQ.then (PQ.then (PQ.blk (PQ.then PQ.body)))))))))) rfl (fun w => run_leq rfl rfl) ?_
         refine WD.pure (i := 19) rfollow_spec_t18 (bt 20 1048575) rfl rfl rfl (by kernel_rfl) (PQ.then (PQ.blk (PQ.then (PQ.then (PQ.blk (PQ.blk (PQ.then (PQ.then (PQ.blk (PQ.then PQ.body)))))))))) rfl (fun w => run_pickT rfl (decide_eq_true g96) rfl) ?_
         refine WD.done rfollow_spec_t18 (by kernel_rfl) ?_
         refine NX.go ?_
         refine WP.condP rfl (fun g108 => ?_) (fun g108 => ?_)
         ·
          refine WP.seq (WP.region rfl ?_)
          refine WO.asg rfl rfl ?_
          refine WO.nil (NX.go (WP.ret (NX.blkRet (NX.thenRet (NX.thenRet (NX.blkRet (NX.blkRet (NX.thenRet (NX.thenRet (NX.blkRet (NX.thenRet ?_)))))))))))
          refine NX.done (l := [.tmp 2]) rfl rfl ?_
          exact ⟨_, rfl, (fun h => by cases h), hS49.drop.drop.drop.drop.drop.drop.drop⟩
         ·
          refine WP.skip (NX.blk (NX.go (WP.region rfl ?_)))
          refine WO.mv rfl rfl ?_
          refine WO.val (run_add rfl rfl (IntWalk.i64_in _ (by omega))) rfl rfl rfl ?_
          refine WO.asg rfl rfl ?_
          refine WO.nil ?_
          exact NX.again (k + 1) ⟨by omega, (hS49.permT [2, 2, 3, 0, 0, 1, 0, 0, 0] (L' := (labA u.lb) :: (ptsA u.pt) :: cel g43 [Value.slice u.lb.a u.lb.l.length u.lb.cap, Value.int .i64 u.last, Value.slice u.pt.a u.pt.l.length u.pt.cap] 99 :: own ra A.length rc 99 3 (A.flatMap mrc) :: allA mrA A :: (rsA b1.rs) :: allA mrA b1.rs.l :: X :: allA blA bs :: L) rfl).drop.drop.drop⟩ (by show b1.rs.l.length - (k + 1) < b1.rs.l.length - k; omega) (Sub.cons rfl (Sub.cons rfl (Sub.cons rfl (Sub.consE rfl (by congr 1) (Sub.nil _)))))
        ·
         refine WD.off (i := 8) rfollow_spec_t18 (bt 20 511) rfl rfl rfl (decide_eq_false g96) (by kernel_rfl) (PQ.then (PQ.blk (PQ.then (PQ.then (PQ.blk (PQ.blk (PQ.then (PQ.then (PQ.blk (PQ.then PQ.body)))))))))) rfl ?_
         refine WD.off (i := 9) rfollow_spec_t18 (bt 20 1023) rfl rfl rfl (decide_eq_false g96) (by kernel_rfl) (PQ.then (PQ.blk (PQ.then (PQ.then (PQ.blk (PQ.blk (PQ.then (PQ.then (PQ.blk (PQ.then PQ.body)))))))))) rfl ?_
         refine WD.off (i := 10) rfollow_spec_t18 (bt 20 2047) rfl rfl rfl (decide_eq_false g96) (by kernel_rfl) (PQ.then (PQ.blk (PQ.then (PQ.then (PQ.blk (PQ.blk (PQ.then (PQ.then (PQ.blk (PQ.then PQ.body)))))))))) rfl ?_
         refine WD.off (i := 11) rfollow_spec_t18 (bt 20 4095) rfl rfl rfl (decide_eq_false g96) (by kernel_rfl) (PQ.then (PQ.blk (PQ.then (PQ.then (PQ.blk (PQ.blk (PQ.then (PQ.then (PQ.blk (PQ.then PQ.body)))))))))) rfl ?_
         refine WD.off (i := 12) rfollow_spec_t18 (bt 20 8191) rfl rfl rfl (decide_eq_false g96) (by kernel_rfl) (PQ.then (PQ.blk (PQ.then (PQ.then (PQ.blk (PQ.blk (PQ.then (PQ.then (PQ.blk (PQ.then PQ.body)))))))))) rfl ?_
         refine WD.off (i := 13) rfollow_spec_t18 (bt 20 16383) rfl rfl rfl (decide_eq_false g96) (by kernel_rfl) (PQ.then (PQ.blk (PQ.then (PQ.then (PQ.blk (PQ.blk (PQ.then (PQ.then (PQ.blk (PQ.then PQ.body)))))))))) rfl ?_
         refine WD.off (i := 14) rfollow_spec_t18 (bt 20 32767) rfl rfl rfl (decide_eq_false g96) (by kernel_rfl) (PQ.then (PQ.blk (PQ.then (PQ.then (PQ.blk (PQ.blk (PQ.then (PQ.then (PQ.blk (PQ.then PQ.body)))))))))) rfl ?_
         refine WD.off (i := 15) rfollow_spec_t18 (bt 20 65535) rfl rfl rfl (decide_eq_false g96) (by kernel_rfl) (PQ.then (PQ.blk (PQ.then (PQ.then (PQ.blk (PQ.blk (PQ.then (PQ.then (PQ.blk (PQ.then PQ.body)))))))))) rfl ?_
         refine WD.off (i := 16) rfollow_spec_t18 (bt 20 131071) rfl rfl rfl (decide_eq_false g96) (by kernel_rfl) (PQ.then (PQ.blk (PQ.then (PQ.then (PQ.blk (PQ.blk (PQ.then (PQ.then (PQ.blk (PQ.then PQ.body)))))))))) rfl ?_
         refine WD.off (i := 17) rfollow_spec_t18 (bt 20 262143) rfl rfl rfl (decide_eq_false g96) (by kernel_rfl) (PQ.then (PQ.blk (PQ.then (PQ.then (PQ.blk (PQ.blk (PQ.then (PQ.then (PQ.blk (PQ.then PQ.body)))))))))) rfl ?_
         refine WD.off (i := 18) rfollow_spec_t18 (bt 20 524287) rfl rfl rfl (decide_eq_false g96) (by kernel_rfl) (PQ.then (PQ.blk (PQ.then (PQ.then (PQ.blk (PQ.blk (PQ.then (PQ.then (PQ.blk (PQ.then PQ.body)))))))))) rfl ?_
         refine WD.pure (i := 19) rfollow_spec_t18 (bt 20 1048575) rfl rfl rfl (by kernel_rfl) (PQ.then (PQ.blk (PQ.then (PQ.then (PQ.blk (PQ.blk (PQ.then (PQ.then (PQ.blk (PQ.then PQ.body)))))))))) rfl (fun w => run_pickF rfl (decide_eq_false g96) rfl) ?_
         refine WD.done rfollow_spec_t18 (by kernel_rfl) ?_
         refine NX.go ?_
         refine WP.condF rfl rfl ?_
         refine WP.skip (NX.blk (NX.go (WP.region rfl ?_)))
         refine WO.mv rfl rfl ?_
         refine WO.val (run_add rfl rfl (IntWalk.i64_in _ (by omega))) rfl rfl rfl ?_
         refine WO.asg rfl rfl ?_
         refine WO.nil ?_
         exact NX.again (k + 1) ⟨by omega, (hS49.permT [2, 2, 3, 0, 0, 1, 0, 0, 0] (L' := (labA u.lb) :: (ptsA u.pt) :: cel g43 [Value.slice u.lb.a u.lb.l.length u.lb.cap, Value.int .i64 u.last, Value.slice u.pt.a u.pt.l.length u.pt.cap] 99 :: own ra A.length rc 99 3 (A.flatMap mrc) :: allA mrA A :: (rsA b1.rs) :: allA mrA b1.rs.l :: X :: allA blA bs :: L) rfl).drop.drop.drop⟩ (by show b1.rs.l.length - (k + 1) < b1.rs.l.length - k; omega) (Sub.cons rfl (Sub.cons rfl (Sub.cons rfl (Sub.consE rfl (by congr 1) (Sub.nil _)))))
       ·
        refine WD.off (i := 2) rfollow_spec_t18 (bt 20 7) rfl rfl rfl g90 (by kernel_rfl) (PQ.then (PQ.blk (PQ.then (PQ.then (PQ.blk (PQ.blk (PQ.then (PQ.then (PQ.blk (PQ.then PQ.body)))))))))) rfl ?_
        refine WD.off (i := 3) rfollow_spec_t18 (bt 20 15) rfl rfl rfl g90 (by kernel_rfl) (PQ.then (PQ.blk (PQ.then (PQ.then (PQ.blk (PQ.blk (PQ.then (PQ.then (PQ.blk (PQ.then PQ.body)))))))))) rfl ?_
        refine WD.off (i := 4) rfollow_spec_t18 (bt 20 31) rfl rfl rfl g90 (by kernel_rfl) (PQ.then (PQ.blk (PQ.then (PQ.then (PQ.blk (PQ.blk (PQ.then (PQ.then (PQ.blk (PQ.then PQ.body)))))))))) rfl ?_
        refine WD.off (i := 5) rfollow_spec_t18 (bt 20 63) rfl rfl rfl g90 (by kernel_rfl) (PQ.then (PQ.blk (PQ.then (PQ.then (PQ.blk (PQ.blk (PQ.then (PQ.then (PQ.blk (PQ.then PQ.body)))))))))) rfl ?_
        refine WD.pure (i := 6) rfollow_spec_t18 (bt 20 127) rfl rfl rfl (by kernel_rfl) (PQ.then (PQ.blk (PQ.then (PQ.then (PQ.blk (PQ.blk (PQ.then (PQ.then (PQ.blk (PQ.then PQ.body)))))))))) rfl (fun w => run_pickF rfl g90 rfl) ?_
        refine WD.pure (i := 7) rfollow_spec_t18 (bt 20 255) rfl rfl rfl (by kernel_rfl) (PQ.then (PQ.blk (PQ.then (PQ.then (PQ.blk (PQ.blk (PQ.then (PQ.then (PQ.blk (PQ.then PQ.body)))))))))) rfl (fun w => run_move rfl) ?_
        refine WD.off (i := 8) rfollow_spec_t18 (bt 20 511) rfl rfl rfl rfl (by kernel_rfl) (PQ.then (PQ.blk (PQ.then (PQ.then (PQ.blk (PQ.blk (PQ.then (PQ.then (PQ.blk (PQ.then PQ.body)))))))))) rfl ?_
        refine WD.off (i := 9) rfollow_spec_t18 (bt 20 1023) rfl rfl rfl rfl (by kernel_rfl) (PQ.then (PQ.blk (PQ.then (PQ.then (PQ.blk (PQ.blk (PQ.then (PQ.then (PQ.blk (PQ.then PQ.body)))))))))) rfl ?_
        refine WD.off (i := 10) rfollow_spec_t18 (bt 20 2047) rfl rfl rfl rfl (by kernel_rfl) (PQ.then (PQ.blk (PQ.then (PQ.then (PQ.blk (PQ.blk (PQ.then (PQ.then (PQ.blk (PQ.then PQ.body)))))))))) rfl ?_
        refine WD.off (i := 11) rfollow_spec_t18 (bt 20 4095) rfl rfl rfl rfl (by kernel_rfl) (PQ.then (PQ.blk (PQ.then (PQ.then (PQ.blk (PQ.blk (PQ.then (PQ.then (PQ.blk (PQ.then PQ.body)))))))))) rfl ?_
        refine WD.off (i := 12) rfollow_spec_t18 (bt 20 8191) rfl rfl rfl rfl (by kernel_rfl) (PQ.then (PQ.blk (PQ.then (PQ.then (PQ.blk (PQ.blk (PQ.then (PQ.then (PQ.blk (PQ.then PQ.body)))))))))) rfl ?_
        refine WD.off (i := 13) rfollow_spec_t18 (bt 20 16383) rfl rfl rfl rfl (by kernel_rfl) (PQ.then (PQ.blk (PQ.then (PQ.then (PQ.blk (PQ.blk (PQ.then (PQ.then (PQ.blk (PQ.then PQ.body)))))))))) rfl ?_
        refine WD.off (i := 14) rfollow_spec_t18 (bt 20 32767) rfl rfl rfl rfl (by kernel_rfl) (PQ.then (PQ.blk (PQ.then (PQ.then (PQ.blk (PQ.blk (PQ.then (PQ.then (PQ.blk (PQ.then PQ.body)))))))))) rfl ?_
        refine WD.off (i := 15) rfollow_spec_t18 (bt 20 65535) rfl rfl rfl rfl (by kernel_rfl) (PQ.then (PQ.blk (PQ.then (PQ.then (PQ.blk (PQ.blk (PQ.then (PQ.then (PQ.blk (PQ.then PQ.body)))))))))) rfl ?_
        refine WD.off (i := 16) rfollow_spec_t18 (bt 20 131071) rfl rfl rfl rfl (by kernel_rfl) (PQ.then (PQ.blk (PQ.then (PQ.then (PQ.blk (PQ.blk (PQ.then (PQ.then (PQ.blk (PQ.then PQ.body)))))))))) rfl ?_
        refine WD.off (i := 17) rfollow_spec_t18 (bt 20 262143) rfl rfl rfl rfl (by kernel_rfl) (PQ.then (PQ.blk (PQ.then (PQ.then (PQ.blk (PQ.blk (PQ.then (PQ.then (PQ.blk (PQ.then PQ.body)))))))))) rfl ?_
        refine WD.off (i := 18) rfollow_spec_t18 (bt 20 524287) rfl rfl rfl rfl (by kernel_rfl) (PQ.then (PQ.blk (PQ.then (PQ.then (PQ.blk (PQ.blk (PQ.then (PQ.then (PQ.blk (PQ.then PQ.body)))))))))) rfl ?_
        refine WD.pure (i := 19) rfollow_spec_t18 (bt 20 1048575) rfl rfl rfl (by kernel_rfl) (PQ.then (PQ.blk (PQ.then (PQ.then (PQ.blk (PQ.blk (PQ.then (PQ.then (PQ.blk (PQ.then PQ.body)))))))))) rfl (fun w => run_pickF rfl rfl rfl) ?_
        refine WD.done rfollow_spec_t18 (by kernel_rfl) ?_
        refine NX.go ?_
        refine WP.condF rfl rfl ?_
        refine WP.skip (NX.blk (NX.go (WP.region rfl ?_)))
        refine WO.mv rfl rfl ?_
        refine WO.val (run_add rfl rfl (IntWalk.i64_in _ (by omega))) rfl rfl rfl ?_
        refine WO.asg rfl rfl ?_
        refine WO.nil ?_
        exact NX.again (k + 1) ⟨by omega, (hS49.permT [2, 2, 3, 0, 0, 1, 0, 0, 0] (L' := (labA u.lb) :: (ptsA u.pt) :: cel g43 [Value.slice u.lb.a u.lb.l.length u.lb.cap, Value.int .i64 u.last, Value.slice u.pt.a u.pt.l.length u.pt.cap] 99 :: own ra A.length rc 99 3 (A.flatMap mrc) :: allA mrA A :: (rsA b1.rs) :: allA mrA b1.rs.l :: X :: allA blA bs :: L) rfl).drop.drop.drop⟩ (by show b1.rs.l.length - (k + 1) < b1.rs.l.length - k; omega) (Sub.cons rfl (Sub.cons rfl (Sub.cons rfl (Sub.consE rfl (by congr 1) (Sub.nil _)))))
      ·
       refine WP.exit (NX.thenExit (NX.thenExit ?_))
       refine NX.blkExit ?_
       refine NX.blk (NX.go (WP.region rfl ?_))
       refine WO.mv rfl rfl ?_
       refine WO.val (run_add rfl rfl (IntWalk.i64_in _ (by omega))) rfl rfl rfl ?_
       refine WO.asg rfl rfl ?_
       refine WO.nil ?_
       exact NX.again (i + 1) ⟨by omega, hS41.drop.drop.drop.drop⟩ (by show bs.length - (i + 1) < bs.length - i; omega) (Sub.cons rfl (Sub.consE rfl (by congr 1) (Sub.nil _)))
    ·
     refine WD.off (i := 14) rfollow_spec_t10 (bt 29 32767) rfl rfl rfl (decide_eq_false g44) (by kernel_rfl) (PQ.then (PQ.then (PQ.blk (PQ.then (PQ.then (PQ.blk (PQ.then PQ.body))))))) rfl ?_
     refine WD.off (i := 15) rfollow_spec_t10 (bt 29 65535) rfl rfl rfl (decide_eq_false g44) (by kernel_rfl) (PQ.then (PQ.then (PQ.blk (PQ.then (PQ.then (PQ.blk (PQ.then PQ.body))))))) rfl ?_
     refine WD.off (i := 16) rfollow_spec_t10 (bt 29 131071) rfl rfl rfl (decide_eq_false g44) (by kernel_rfl) (PQ.then (PQ.then (PQ.blk (PQ.then (PQ.then (PQ.blk (PQ.then PQ.body))))))) rfl ?_
     refine WD.off (i := 17) rfollow_spec_t10 (bt 29 262143) rfl rfl rfl (decide_eq_false g44) (by kernel_rfl) (PQ.then (PQ.then (PQ.blk (PQ.then (PQ.then (PQ.blk (PQ.then PQ.body))))))) rfl ?_
     refine WD.off (i := 18) rfollow_spec_t10 (bt 29 524287) rfl rfl rfl (decide_eq_false g44) (by kernel_rfl) (PQ.then (PQ.then (PQ.blk (PQ.then (PQ.then (PQ.blk (PQ.then PQ.body))))))) rfl ?_
     refine WD.off (i := 19) rfollow_spec_t10 (bt 29 1048575) rfl rfl rfl (decide_eq_false g44) (by kernel_rfl) (PQ.then (PQ.then (PQ.blk (PQ.then (PQ.then (PQ.blk (PQ.then PQ.body))))))) rfl ?_
     refine WD.off (i := 20) rfollow_spec_t10 (bt 29 2097151) rfl rfl rfl (decide_eq_false g44) (by kernel_rfl) (PQ.then (PQ.then (PQ.blk (PQ.then (PQ.then (PQ.blk (PQ.then PQ.body))))))) rfl ?_
     refine WD.off (i := 21) rfollow_spec_t10 (bt 29 4194303) rfl rfl rfl (decide_eq_false g44) (by kernel_rfl) (PQ.then (PQ.then (PQ.blk (PQ.then (PQ.then (PQ.blk (PQ.then PQ.body))))))) rfl ?_
     refine WD.off (i := 22) rfollow_spec_t10 (bt 29 8388607) rfl rfl rfl (decide_eq_false g44) (by kernel_rfl) (PQ.then (PQ.then (PQ.blk (PQ.then (PQ.then (PQ.blk (PQ.then PQ.body))))))) rfl ?_
     refine WD.off (i := 23) rfollow_spec_t10 (bt 29 16777215) rfl rfl rfl (decide_eq_false g44) (by kernel_rfl) (PQ.then (PQ.then (PQ.blk (PQ.then (PQ.then (PQ.blk (PQ.then PQ.body))))))) rfl ?_
     refine WD.off (i := 24) rfollow_spec_t10 (bt 29 33554431) rfl rfl rfl (decide_eq_false g44) (by kernel_rfl) (PQ.then (PQ.then (PQ.blk (PQ.then (PQ.then (PQ.blk (PQ.then PQ.body))))))) rfl ?_
     refine WD.off (i := 25) rfollow_spec_t10 (bt 29 67108863) rfl rfl rfl (decide_eq_false g44) (by kernel_rfl) (PQ.then (PQ.then (PQ.blk (PQ.then (PQ.then (PQ.blk (PQ.then PQ.body))))))) rfl ?_
     refine WD.off (i := 26) rfollow_spec_t10 (bt 29 134217727) rfl rfl rfl (decide_eq_false g44) (by kernel_rfl) (PQ.then (PQ.then (PQ.blk (PQ.then (PQ.then (PQ.blk (PQ.then PQ.body))))))) rfl ?_
     refine WD.pureOn (i := 27) rfollow_spec_t10 (bt 29 268435455) rfl rfl rfl rfl (by kernel_rfl) (PQ.then (PQ.then (PQ.blk (PQ.then (PQ.then (PQ.blk (PQ.then PQ.body))))))) rfl (fun w => run_pickF rfl (decide_eq_false g44) rfl) ?_
     refine WD.pure (i := 28) rfollow_spec_t10 (bt 29 536870911) rfl rfl rfl (by kernel_rfl) (PQ.then (PQ.then (PQ.blk (PQ.then (PQ.then (PQ.blk (PQ.then PQ.body))))))) rfl (fun w => run_pickF rfl rfl rfl) ?_
     refine WD.done rfollow_spec_t10 (by kernel_rfl) ?_
     refine NX.go ?_
     refine WP.condF rfl rfl ?_
     refine WP.skip (NX.go (WP.seq ?_))
     have hzb := hbz b1 (List.mem_of_getElem? hb1)
     have hnr := hzb.nr
     refine WP.region rfl ?_
     refine WO.mv rfl rfl ?_
     refine WO.mv rfl rfl ?_
     refine WO.val (run_sliceTo (j := i) Tryz.underlying22 Ty.sz51 rfl ⟨_, rfl⟩ (by omega)) rfl rfl rfl ?_
     refine WO.as (d := 62) (v := Value.slice a ((bs.take i).length) cap) rfl (by rw [List.length_take, Nat.min_eq_left hi]) ?_
     refine WO.call rfl rfl Ty.hd28 rfl (rlasts_spec (cs := bs) (rd_takeB hX hi) (fun b hb => List.mem_of_mem_take hb) (fun b hb => hbz b (List.mem_of_mem_take hb)) (by rw [List.length_take]; omega) (by have h9 := (tots (fun b hb => hchk b (List.mem_of_mem_take hb)) (fun b hb => hwg b (List.mem_of_mem_take (i := i) hb))).1; rw [List.length_take] at h9; omega) hS6) (fun v52 w51 pv52 => ?_)
     obtain ⟨ra, rc, A, rfl, hA, hAn, hAl, hS51⟩ := pv52
     clear hS6
     refine WO.asg rfl rfl ?_
     refine WO.nil (NX.go (WP.seq ?_))
     have hS53 := blA_get (List.mem_of_getElem? hb1) (hS51.permT [3, 0, 0, 0] (L' := allA blA bs :: own ra A.length rc 99 3 (A.flatMap mrc) :: allA mrA A :: X :: L) rfl)
     clear hS51
     have hS54 : St B ((rsA b1.rs) :: allA mrA b1.rs.l :: allA blA bs :: own ra A.length rc 99 3 (A.flatMap mrc) :: allA mrA A :: X :: L) w51 := (hS53.permT [2, 2, 0, 0, 0, 0, 0, 0] (L' := (dsA b1.ds) :: allA recA b1.ds.l :: (rsA b1.rs) :: allA mrA b1.rs.l :: allA blA bs :: own ra A.length rc 99 3 (A.flatMap mrc) :: allA mrA A :: X :: L) rfl).drop.drop
     clear hS53
     refine WP.region rfl ?_
     refine WO.asg rfl rfl ?_
     refine WO.nil (NX.go (WP.block ?_))
     refine WP.loop (α := Nat) (fun x => match x with | k => [(0, Value.slice a bs.length cap), (5, Value.int .i64 (i : Int)), (6, Value.slice ra A.length rc), (7, Value.int .i64 (k : Int))]) (fun x w => match x with | k => (k ≤ b1.rs.l.length) ∧ St B (own ra A.length rc 99 3 (A.flatMap mrc) :: allA mrA A :: (rsA b1.rs) :: allA mrA b1.rs.l :: X :: allA blA bs :: L) w) (fun x => match x with | k => b1.rs.l.length - k) 0 ⟨Nat.zero_le _, (hS54.permT [3, 3, 0, 0, 1, 0] (L' := own ra A.length rc 99 3 (A.flatMap mrc) :: allA mrA A :: (rsA b1.rs) :: allA mrA b1.rs.l :: X :: allA blA bs :: L) rfl)⟩ (Sub.cons rfl (Sub.cons rfl (Sub.cons rfl (Sub.consE rfl (by first | rfl | first | rfl | (congr 1; omega) | (simp; done) | (simp; omega)) (Sub.nil _))))) ?_
     rintro k w55 ⟨hk, hS55⟩
     clear hS54
     refine WP.seq (WP.seq ?_)
     have hsa : a.isSome = true := rd_isSome ((hX (hS55.focus 4 rfl))) (by omega)
     refine WP.region rfl ?_
     refine WO.mv rfl rfl ?_
     refine WO.mv rfl rfl ?_
     refine WO.mv rfl rfl ?_
     refine WO.val (run_indexAddr (q := adr a (i * 4)) Tryz.underlying22 Ty.sz51 rfl rfl (by omega) (by omega) ((hX (hS55.focus 4 rfl)).2.1 (by omega)) rfl) rfl rfl rfl ?_
     refine WO.val (run_fieldAddr (q := (adr a (i * 4 + 2))) (show fieldB Tryz.prog 51 2 = some 2 from by kernel_rfl) rfl (adr_add _ (by assumption) _ _)) rfl rfl rfl ?_
     refine WO.val (run_load Ty.ag49 rfl ((hX (hS55.focus 4 rfl)).cell ((flat_get blc_len hb1 (j := 2) (by decide)).trans rfl))) rfl rfl rfl ?_
     refine WO.val (run_len rfl Tryz.underlying49 rfl) rfl rfl rfl ?_
     refine WO.val (run_lss rfl rfl) rfl rfl rfl ?_
     refine WO.nil (NX.go ?_)
     refine WP.condP rfl (fun g71 => ?_) (fun g71 => ?_)
     ·
      refine WP.skip (NX.go (WP.seq (WP.block (WP.seq ?_))))
      obtain ⟨u, hu⟩ : ∃ qq, b1.rs.l[k]? = some qq := ⟨_, List.getElem?_eq_getElem (by omega)⟩
      have hzu := hzb.r u (List.mem_of_getElem? hu)
      refine WP.region rfl ?_
      refine WO.mv rfl rfl ?_
      refine WO.mv rfl rfl ?_
      refine WO.val (run_indexAddr (q := adr a (i * 4)) Tryz.underlying22 Ty.sz51 rfl rfl (by omega) (by omega) ((hX (hS55.focus 4 rfl)).2.1 (by omega)) rfl) rfl rfl rfl ?_
      refine WO.val (run_fieldAddr (q := (adr a (i * 4 + 2))) (show fieldB Tryz.prog 51 2 = some 2 from by kernel_rfl) rfl (adr_add _ (by assumption) _ _)) rfl rfl rfl ?_
      refine WO.val (run_load Ty.ag49 rfl ((hX (hS55.focus 4 rfl)).cell ((flat_get blc_len hb1 (j := 2) (by decide)).trans rfl))) rfl rfl rfl ?_
      refine WO.mv rfl rfl ?_
      refine WO.val (run_indexAddr (q := adr b1.rs.a (k * 3)) Tryz.underlying49 Ty.sz99 rfl rfl (by omega) (by omega) ((rdH_rd (hS55.focus 2 rfl)).2.1 (by omega)) rfl) rfl rfl rfl ?_
      refine WO.val (run_loadAgg (vs := [Value.slice u.lb.a u.lb.l.length u.lb.cap, Value.int .i64 u.last, Value.slice u.pt.a u.pt.l.length u.pt.cap]) Ty.ag99 Ty.sz99 rfl ((rdH_rd (hS55.focus 2 rfl)).cells (by rw [flat_len mrc_len]; omega) (flat_part mrc_len hu)).1 ((rdH_rd (hS55.focus 2 rfl)).cells (by rw [flat_len mrc_len]; omega) (flat_part mrc_len hu)).2) rfl rfl rfl ?_
      refine WO.alloc (l := [Value.slice none 0 0, Value.int .i64 0, Value.slice none 0 0]) hS55 Ty.zr99 rfl rfl (fun g57 w56 lg57 hS56 => ?_)
      clear hS55
      refine WO.store (l' := [Value.slice u.lb.a u.lb.l.length u.lb.cap, Value.int .i64 u.last, Value.slice u.pt.a u.pt.l.length u.pt.cap]) 0 hS56 rfl Ty.sz99 rfl rfl rfl rfl rfl (Nat.le_of_ble_eq_true rfl) rfl (fun w58 (hS58 : St B (cel g57 [Value.slice u.lb.a u.lb.l.length u.lb.cap, Value.int .i64 u.last, Value.slice u.pt.a u.pt.l.length u.pt.cap] 99 :: own ra A.length rc 99 3 (A.flatMap mrc) :: allA mrA A :: (rsA b1.rs) :: allA mrA b1.rs.l :: X :: allA blA bs :: L) w58) => ?_)
      clear hS56
      refine WO.nil (NX.go (WP.seq ?_))
      have hS59 := mrA_get (List.mem_of_getElem? hu) (hS58.permT [4, 0, 0, 0, 0, 0, 0] (L' := allA mrA b1.rs.l :: cel g57 [Value.slice u.lb.a u.lb.l.length u.lb.cap, Value.int .i64 u.last, Value.slice u.pt.a u.pt.l.length u.pt.cap] 99 :: own ra A.length rc 99 3 (A.flatMap mrc) :: allA mrA A :: (rsA b1.rs) :: X :: allA blA bs :: L) rfl)
      clear hS58
      refine WP.region rfl ?_
      refine WO.mv rfl rfl ?_
      refine WO.val (run_fieldAddr (q := ⟨g57, 0, none⟩) (show fieldB Tryz.prog 99 0 = some 0 from by kernel_rfl) rfl rfl) rfl rfl rfl ?_
      refine WO.val (run_load Ty.ag65 rfl ((hS59.cel_at 3 rfl 0).trans rfl)) rfl rfl rfl ?_
      have hS60 := hS59.permT [4, 4, 0, 0, 0, 0, 0, 0, 0] (L' := own ra A.length rc 99 3 (A.flatMap mrc) :: allA mrA A :: (labA u.lb) :: (ptsA u.pt) :: allA mrA b1.rs.l :: cel g57 [Value.slice u.lb.a u.lb.l.length u.lb.cap, Value.int .i64 u.last, Value.slice u.pt.a u.pt.l.length u.pt.cap] 99 :: (rsA b1.rs) :: X :: allA blA bs :: L) rfl
      clear hS59
      refine WO.call rfl rfl Ty.hd48 rfl (rat_spec (X := own ra A.length rc 99 3 (A.flatMap mrc)) (fun h => h.own_rd.1) rdH_rd (by omega) hAl hzu.1 hS60) (fun v62 w61 pv62 => ?_)
      obtain ⟨rfl, hS61⟩ := pv62
      clear hS60
      refine WO.mv rfl rfl ?_
      refine WO.val (run_extract rfl rfl) rfl rfl rfl ?_
      refine WO.val (run_extract rfl rfl) rfl rfl rfl ?_
      refine WO.asg rfl rfl ?_
      refine WO.asg rfl rfl ?_
      refine WO.nil (NX.go (WP.seq ?_))
      refine WD.start (fun w => Rd w ra A.length 3 (A.flatMap mrc) ∧ Rd w u.lb.a u.lb.l.length 2 (u.lb.l.flatMap prc) ∧ Rd w u.pt.a u.pt.l.length 2 (u.pt.l.flatMap ptc) ∧ (∀ jz, World.cell? w ⟨g57, jz, none⟩ = [Value.slice u.lb.a u.lb.l.length u.lb.cap, Value.int .i64 u.last, Value.slice u.pt.a u.pt.l.length u.pt.cap][jz]?) ∧ Rd w b1.rs.a b1.rs.l.length 3 (b1.rs.l.flatMap mrc) ∧ Rd w a bs.length 4 (bs.flatMap blc)) [] (bt 20 0) Ty.mo rfl (by kernel_rfl) hS61 (fun _ h => ⟨(h.own_rd_i 0 rfl), (rdH_rd (h.focus 2 rfl)), (rdH_rd (h.focus 3 rfl)), h.cel_at 5 rfl, (rdH_rd (h.focus 6 rfl)), (hX (h.focus 7 rfl))⟩) (fun w63 hS63 s64 => ?_)
      clear hS61
      refine WD.pure (i := 0) rfollow_spec_t18 (bt 20 1) rfl rfl rfl (by kernel_rfl) (PQ.then (PQ.blk (PQ.then (PQ.then (PQ.blk (PQ.blk (PQ.then (PQ.then (PQ.blk (PQ.then PQ.body)))))))))) rfl (fun w => run_move rfl) ?_
      refine WD.pure (i := 1) rfollow_spec_t18 (bt 20 3) rfl rfl rfl (by kernel_rfl) (PQ.then (PQ.blk (PQ.then (PQ.then (PQ.blk (PQ.blk (PQ.then (PQ.then (PQ.blk (PQ.then PQ.body)))))))))) rfl (fun w => run_move rfl) ?_
      rcases Bool.eq_false_or_eq_true (hasR A u.lb.l) with g90 | g90
      ·
       obtain ⟨ar, har⟩ := has_some g90
       have halt := (List.getElem?_eq_some_iff.1 har).1
       have hsra : ra.isSome = true := rd_isSome ((hS63.own_rd_i 0 rfl)) (by omega)
       refine WD.pureOn (i := 2) rfollow_spec_t18 (bt 20 7) rfl rfl rfl g90 (by kernel_rfl) (PQ.then (PQ.blk (PQ.then (PQ.then (PQ.blk (PQ.blk (PQ.then (PQ.then (PQ.blk (PQ.then PQ.body)))))))))) rfl (fun w => run_fieldAddr (q := ⟨g57, 2, none⟩) (show fieldB Tryz.prog 99 2 = some 2 from by kernel_rfl) rfl rfl) ?_
       refine WD.takeOn (i := 3) rfollow_spec_t18 (bt 20 15) s64 rfl rfl rfl g90 (by kernel_rfl) (PQ.then (PQ.blk (PQ.then (PQ.then (PQ.blk (PQ.blk (PQ.then (PQ.then (PQ.blk (PQ.then PQ.body)))))))))) rfl (fun w hs => run_load Ty.ag66 rfl ((hs.2.2.2.1 2).trans rfl)) ?_
       refine WD.pureOn (i := 4) rfollow_spec_t18 (bt 20 31) rfl rfl rfl g90 (by kernel_rfl) (PQ.then (PQ.blk (PQ.then (PQ.then (PQ.blk (PQ.blk (PQ.then (PQ.then (PQ.blk (PQ.then PQ.body)))))))))) rfl (fun w => run_len rfl Tryz.underlying66 rfl) ?_
       refine WD.pureOn (i := 5) rfollow_spec_t18 (bt 20 63) rfl rfl rfl g90 (by kernel_rfl) (PQ.then (PQ.blk (PQ.then (PQ.then (PQ.blk (PQ.blk (PQ.then (PQ.then (PQ.blk (PQ.then PQ.body)))))))))) rfl (fun w => run_gtr rfl rfl) ?_
       refine WD.pure (i := 6) rfollow_spec_t18 (bt 20 127) rfl rfl rfl (by kernel_rfl) (PQ.then (PQ.blk (PQ.then (PQ.then (PQ.blk (PQ.blk (PQ.then (PQ.then (PQ.blk (PQ.then PQ.body)))))))))) rfl (fun w => run_pickT rfl g90 rfl) ?_
       refine WD.pure (i := 7) rfollow_spec_t18 (bt 20 255) rfl rfl rfl (by kernel_rfl) (PQ.then (PQ.blk (PQ.then (PQ.then (PQ.blk (PQ.blk (PQ.then (PQ.then (PQ.blk (PQ.then PQ.body)))))))))) rfl (fun w => run_move rfl) ?_
       by_cases g96 : 0 < ((u.pt.l.length : Nat) : Int)
       ·
        obtain ⟨p0, hp0⟩ : ∃ qq, u.pt.l[0]? = some qq := ⟨_, List.getElem?_eq_getElem (by omega)⟩
        have hsp : u.pt.a.isSome = true := rd_isSome ((rdH_rd (hS63.focus 3 rfl))) (by omega)
        refine WD.pureOn (i := 8) rfollow_spec_t18 (bt 20 511) rfl rfl rfl (decide_eq_true g96) (by kernel_rfl) (PQ.then (PQ.blk (PQ.then (PQ.then (PQ.blk (PQ.blk (PQ.then (PQ.then (PQ.blk (PQ.then PQ.body)))))))))) rfl (fun w => run_fieldAddr (q := ⟨g57, 2, none⟩) (show fieldB Tryz.prog 99 2 = some 2 from by kernel_rfl) rfl rfl) ?_
        refine WD.takeOn (i := 9) rfollow_spec_t18 (bt 20 1023) s64 rfl rfl rfl (decide_eq_true g96) (by kernel_rfl) (PQ.then (PQ.blk (PQ.then (PQ.then (PQ.blk (PQ.blk (PQ.then (PQ.then (PQ.blk (PQ.then PQ.body)))))))))) rfl (fun w hs => run_load Ty.ag66 rfl ((hs.2.2.2.1 2).trans rfl)) ?_
        refine WD.takeOn (i := 10) rfollow_spec_t18 (bt 20 2047) s64 rfl rfl rfl (decide_eq_true g96) (by kernel_rfl) (PQ.then (PQ.blk (PQ.then (PQ.then (PQ.blk (PQ.blk (PQ.then (PQ.then (PQ.blk (PQ.then PQ.body)))))))))) rfl (fun w hs => run_indexAddr (q := adr u.pt.a (0 * 2)) Tryz.underlying66 Ty.sz103 rfl rfl (by omega) (by omega) ((hs.2.2.1).2.1 (by omega)) rfl) ?_
        refine WD.pureOn (i := 11) rfollow_spec_t18 (bt 20 4095) rfl rfl rfl (decide_eq_true g96) (by kernel_rfl) (PQ.then (PQ.blk (PQ.then (PQ.then (PQ.blk (PQ.blk (PQ.then (PQ.then (PQ.blk (PQ.then PQ.body)))))))))) rfl (fun w => run_fieldAddr (q := (adr u.pt.a (0 * 2 + 0))) (show fieldB Tryz.prog 103 0 = some 0 from by kernel_rfl) rfl (adr_add _ (by assumption) _ _)) ?_
        refine WD.takeOn (i := 12) rfollow_spec_t18 (bt 20 8191) s64 rfl rfl rfl (decide_eq_true g96) (by kernel_rfl) (PQ.then (PQ.blk (PQ.then (PQ.then (PQ.blk (PQ.blk (PQ.then (PQ.then (PQ.blk (PQ.then PQ.body)))))))))) rfl (fun w hs => run_load Ty.ag2 rfl ((hs.2.2.1).cell ((flat_get ptc_len hp0 (j := 0) (by decide)).trans rfl))) ?_
        refine WD.pureOn (i := 13) rfollow_spec_t18 (bt 20 16383) rfl rfl rfl (decide_eq_true g96) (by kernel_rfl) (PQ.then (PQ.blk (PQ.then (PQ.then (PQ.blk (PQ.blk (PQ.then (PQ.then (PQ.blk (PQ.then PQ.body)))))))))) rfl (fun w => run_move rfl) ?_
        refine WD.pureOn (i := 14) rfollow_spec_t18 (bt 20 32767) rfl rfl rfl (decide_eq_true g96) (by kernel_rfl) (PQ.then (PQ.blk (PQ.then (PQ.then (PQ.blk (PQ.blk (PQ.then (PQ.then (PQ.blk (PQ.then PQ.body)))))))))) rfl (fun w => run_move rfl) ?_
        refine WD.takeOn (i := 15) rfollow_spec_t18 (bt 20 65535) s64 rfl rfl rfl (decide_eq_true g96) (by kernel_rfl) (PQ.then (PQ.blk (PQ.then (PQ.then (PQ.blk (PQ.blk (PQ.then (PQ.then (PQ.blk (PQ.then PQ.body)))))))))) rfl (fun w hs => run_indexAddr (q := adr ra ((atR A u.lb.l) * 3)) Tryz.underlying49 Ty.sz99 rfl rfl (by omega) (by omega) ((hs.1).2.1 (by omega)) rfl) ?_
        refine WD.pureOn (i := 16) rfollow_spec_t18 (bt 20 131071) rfl rfl rfl (decide_eq_true g96) (by kernel_rfl) (PQ.then (PQ.blk (PQ.then (PQ.then (PQ.blk (PQ.blk (PQ.then (PQ.then (PQ.blk (PQ.then PQ.body)))))))))) rfl (fun w => run_fieldAddr (q := (adr ra ((atR A u.lb.l) * 3 + 1))) (show fieldB Tryz.prog 99 1 = some 1 from by kernel_rfl) rfl (adr_add _ (by assumption) _ _)) ?_
        refine WD.takeOn (i := 17) rfollow_spec_t18 (bt 20 262143) s64 rfl rfl rfl (decide_eq_true g96) (by kernel_rfl) (PQ.then (PQ.blk (PQ.then (PQ.then (PQ.blk (PQ.blk (PQ.then (PQ.then (PQ.blk (PQ.then PQ.body)))))))))) rfl (fun w hs => run_load Ty.ag2 rfl ((hs.1).cell ((flat_get mrc_len har (j := 1) (by decide)).trans rfl))) ?_
        refine WD.pureOn (i := 18) rfollow_spec_t18 (bt 20 524287) rfl rfl rfl (decide_eq_true g96) (by kernel_rfl) (PQ.then (PQ.blk (PQ.then (PQ.then (PQ.blk (PQ.blk (PQ.then (PQ.then (PQ.blk (PQ.then PQ.body)))))))))) rfl (fun w => run_leq rfl rfl) ?_
        refine WD.pure (i := 19) rfollow_spec_t18 (bt 20 1048575) rfl rfl rfl (by kernel_rfl) (PQ.then (PQ.blk (PQ.then (PQ.then (PQ.blk (PQ.blk (PQ.then (PQ.then (PQ.blk (PQ.then PQ.body)))))))))) rfl (fun w => run_pickT rfl (decide_eq_true g96) rfl) ?_
        refine WD.done rfollow_spec_t18 (by kernel_rfl) ?_
        refine NX.go ?_
        refine WP.condP rfl (fun g108 => ?_) (fun g108 => ?_)
        ·
         refine WP.seq (WP.region rfl ?_)
         refine WO.asg rfl rfl ?_
         refine WO.nil (NX.go (WP.ret (NX.blkRet (NX.thenRet (NX.thenRet (NX.blkRet (NX.blkRet (NX.thenRet (NX.thenRet (NX.blkRet (NX.thenRet ?_)))))))))))
         refine NX.done (l := [.tmp 2]) rfl rfl ?_
         exact ⟨_, rfl, (fun h => by cases h), hS63.drop.drop.drop.drop.drop.drop.drop⟩
        ·
         refine WP.skip (NX.blk (NX.go (WP.region rfl ?_)))
         refine WO.mv rfl rfl ?_
         refine WO.val (run_add rfl rfl (IntWalk.i64_in _ (by omega))) rfl rfl rfl ?_
         refine WO.asg rfl rfl ?_
         refine WO.nil ?_
         exact NX.again (k + 1) ⟨by omega, (hS63.permT [2, 2, 3, 0, 0, 1, 0, 0, 0] (L' := (labA u.lb) :: (ptsA u.pt) :: cel g57 [Value.slice u.lb.a u.lb.l.length u.lb.cap, Value.int .i64 u.last, Value.slice u.pt.a u.pt.l.length u.pt.cap] 99 :: own ra A.length rc 99 3 (A.flatMap mrc) :: allA mrA A :: (rsA b1.rs) :: allA mrA b1.rs.l :: X :: allA blA bs :: L) rfl).drop.drop.drop⟩ (by show b1.rs.l.length - (k + 1) < b1.rs.l.length - k; omega) (Sub.cons rfl (Sub.cons rfl (Sub.cons rfl (Sub.consE rfl (by congr 1) (Sub.nil _)))))
       ·
        refine WD.off (i := 8) rfollow_spec_t18 (bt 20 511) rfl rfl rfl (decide_eq_false g96) (by kernel_rfl) (PQ.then (PQ.blk (PQ.then (PQ.then (PQ.blk (PQ.blk (PQ.then (PQ.then (PQ.blk (PQ.then PQ.body)))))))))) rfl ?_
        refine WD.off (i := 9) rfollow_spec_t18 (bt 20 1023) rfl rfl rfl (decide_eq_false g96) (by kernel_rfl) (PQ.then (PQ.blk (PQ.then (PQ.then (PQ.blk (PQ.blk (PQ.then (PQ.then (PQ.blk (PQ.then PQ.body)))))))))) rfl ?_
        refine WD.off (i := 10) rfollow_spec_t18 (bt 20 2047) rfl rfl rfl (decide_eq_false g96) (by kernel_rfl) (PQ.then (PQ.blk (PQ.then (PQ.then (PQ.blk (PQ.blk (PQ.then (PQ.then (PQ.blk (PQ.then PQ.body)))))))))) rfl ?_
        refine WD.off (i := 11) rfollow_spec_t18 (bt 20 4095) rfl rfl rfl (decide_eq_false g96) (by kernel_rfl) (PQ.then (PQ.blk (PQ.then (PQ.then (PQ.blk (PQ.blk (PQ.then (PQ.then (PQ.blk (PQ.then PQ.body)))))))))) rfl ?_
        refine WD.off (i := 12) rfollow_spec_t18 (bt 20 8191) rfl rfl rfl (decide_eq_false g96) (by kernel_rfl) (PQ.then (PQ.blk (PQ.then (PQ.then (PQ.blk (PQ.blk (PQ.then (PQ.then (PQ.blk (PQ.then PQ.body)))))))))) rfl ?_
        refine WD.off (i := 13) rfollow_spec_t18 (bt 20 16383) rfl rfl rfl (decide_eq_false g96) (by kernel_rfl) (PQ.then (PQ.blk (PQ.then (PQ.then (PQ.blk (PQ.blk (PQ.then (PQ.then (PQ.blk (PQ.then PQ.body)))))))))) rfl ?_
        refine WD.off (i := 14) rfollow_spec_t18 (bt 20 32767) rfl rfl rfl (decide_eq_false g96) (by kernel_rfl) (PQ.then (PQ.blk (PQ.then (PQ.then (PQ.blk (PQ.blk (PQ.then (PQ.then (PQ.blk (PQ.then PQ.body)))))))))) rfl ?_
        refine WD.off (i := 15) rfollow_spec_t18 (bt 20 65535) rfl rfl rfl (decide_eq_false g96) (by kernel_rfl) (PQ.then (PQ.blk (PQ.then (PQ.then (PQ.blk (PQ.blk (PQ.then (PQ.then (PQ.blk (PQ.then PQ.body)))))))))) rfl ?_
        refine WD.off (i := 16) rfollow_spec_t18 (bt 20 131071) rfl rfl rfl (decide_eq_false g96) (by kernel_rfl) (PQ.then (PQ.blk (PQ.then (PQ.then (PQ.blk (PQ.blk (PQ.then (PQ.then (PQ.blk (PQ.then PQ.body)))))))))) rfl ?_
        refine WD.off (i := 17) rfollow_spec_t18 (bt 20 262143) rfl rfl rfl (decide_eq_false g96) (by kernel_rfl) (PQ.then (PQ.blk (PQ.then (PQ.then (PQ.blk (PQ.blk (PQ.then (PQ.then (PQ.blk (PQ.then PQ.body)))))))))) rfl ?_
        refine WD.off (i := 18) rfollow_spec_t18 (bt 20 524287) rfl rfl rfl (decide_eq_false g96) (by kernel_rfl) (PQ.then (PQ.blk (PQ.then (PQ.then (PQ.blk (PQ.blk (PQ.then (PQ.then (PQ.blk (PQ.then PQ.body)))))))))) rfl ?_
        refine WD.pure (i := 19) rfollow_spec_t18 (bt 20 1048575) rfl rfl rfl (by kernel_rfl) (PQ.then (PQ.blk (PQ.then (PQ.then (PQ.blk (PQ.blk (PQ.then (PQ.then (PQ.blk (PQ.then PQ.body)))))))))) rfl (fun w => run_pickF rfl (decide_eq_false g96) rfl) ?_
        refine WD.done rfollow_spec_t18 (by kernel_rfl) ?_
        refine NX.go ?_
        refine WP.condF rfl rfl ?_
        refine WP.skip (NX.blk (NX.go (WP.region rfl ?_)))
        refine WO.mv rfl rfl ?_
        refine WO.val (run_add rfl rfl (IntWalk.i64_in _ (by omega))) rfl rfl rfl ?_
        refine WO.asg rfl rfl ?_
        refine WO.nil ?_
        exact NX.again (k + 1) ⟨by omega, (hS63.permT [2, 2, 3, 0, 0, 1, 0, 0, 0] (L' := (labA u.lb) :: (ptsA u.pt) :: cel g57 [Value.slice u.lb.a u.lb.l.length u.lb.cap, Value.int .i64 u.last, Value.slice u.pt.a u.pt.l.length u.pt.cap] 99 :: own ra A.length rc 99 3 (A.flatMap mrc) :: allA mrA A :: (rsA b1.rs) :: allA mrA b1.rs.l :: X :: allA blA bs :: L) rfl).drop.drop.drop⟩ (by show b1.rs.l.length - (k + 1) < b1.rs.l.length - k; omega) (Sub.cons rfl (Sub.cons rfl (Sub.cons rfl (Sub.consE rfl (by congr 1) (Sub.nil _)))))
      ·
       refine WD.off (i := 2) rfollow_spec_t18 (bt 20 7) rfl rfl rfl g90 (by kernel_rfl) (PQ.then (PQ.blk (PQ.then (PQ.then (PQ.blk (PQ.blk (PQ.then (PQ.then (PQ.blk (PQ.then PQ.body)))))))))) rfl ?_
       refine WD.off (i := 3) rfollow_spec_t18 (bt 20 15) rfl rfl rfl g90 (by kernel_rfl) (PQ.then (PQ.blk (PQ.then (PQ.then (PQ.blk (PQ.blk (PQ.then (PQ.then (PQ.blk (PQ.then PQ.body)))))))))) rfl ?_
       refine WD.off (i := 4) rfollow_spec_t18 (bt 20 31) rfl rfl rfl g90 (by kernel_rfl) (PQ.then (PQ.blk (PQ.then (PQ.then (PQ.blk (PQ.blk (PQ.then (PQ.then (PQ.blk (PQ.then PQ.body)))))))))) rfl ?_
       refine WD.off (i := 5) rfollow_spec_t18 (bt 20 63) rfl rfl rfl g90 (by kernel_rfl) (PQ.then (PQ.blk (PQ.then (PQ.then (PQ.blk (PQ.blk (PQ.then (PQ.then (PQ.blk (PQ.then PQ.body)))))))))) rfl ?_
       refine WD.pure (i := 6) rfollow_spec_t18 (bt 20 127) rfl rfl rfl (by kernel_rfl) (PQ.then (PQ.blk (PQ.then (PQ.then (PQ.blk (PQ.blk (PQ.then (PQ.then (PQ.blk (PQ.then PQ.body)))))))))) rfl (fun w => run_pickF rfl g90 rfl) ?_
       refine WD.pure (i := 7) rfollow_spec_t18 (bt 20 255) rfl rfl rfl (by kernel_rfl) (PQ.then (PQ.blk (PQ.then (PQ.then (PQ.blk (PQ.blk (PQ.then (PQ.then (PQ.blk (PQ.then PQ.body)))))))))) rfl (fun w => run_move rfl) ?_
       refine WD.off (i := 8) rfollow_spec_t18 (bt 20 511) rfl rfl rfl rfl (by kernel_rfl) (PQ.then (PQ.blk (PQ.then (PQ.then (PQ.blk (PQ.blk (PQ.then (PQ.then (PQ.blk (PQ.then PQ.body)))))))))) rfl ?_
       refine WD.off (i := 9) rfollow_spec_t18 (bt 20 1023) rfl rfl rfl rfl (by kernel_rfl) (PQ.then (PQ.blk (PQ.then (PQ.then (PQ.blk (PQ.blk (PQ.then (PQ.then (PQ.blk (PQ.then PQ.body)))))))))) rfl ?_
       refine WD.off (i := 10) rfollow_spec_t18 (bt 20 2047) rfl rfl rfl rfl (by kernel_rfl) (PQ.then (PQ.blk (PQ.then (PQ.then (PQ.blk (PQ.blk (PQ.then (PQ.then (PQ.blk (PQ.then PQ.body)))))))))) rfl ?_
       refine WD.off (i := 11) rfollow_spec_t18 (bt 20 4095) rfl rfl rfl rfl (by kernel_rfl) (PQ.then (PQ.blk (PQ.then (PQ.then (PQ.blk (PQ.blk (PQ.then (PQ.then (PQ.blk (PQ.then PQ.body)))))))))) rfl ?_
       refine WD.off (i := 12) rfollow_spec_t18 (bt 20 8191) rfl rfl rfl rfl (by kernel_rfl) (PQ.then (PQ.blk (PQ.then (PQ.then (PQ.blk (PQ.blk (PQ.then (PQ.then (PQ.blk (PQ.then PQ.body)))))))))) rfl ?_
       refine WD.off (i := 13) rfollow_spec_t18 (bt 20 16383) rfl rfl rfl rfl (by kernel_rfl) (PQ.then (PQ.blk (PQ.then (PQ.then (PQ.blk (PQ.blk (PQ.then (PQ.then (PQ.blk (PQ.then PQ.body)))))))))) rfl ?_
       refine WD.off (i := 14) rfollow_spec_t18 (bt 20 32767) rfl rfl rfl rfl (by kernel_rfl) (PQ.then (PQ.blk (PQ.then (PQ.then (PQ.blk (PQ.blk (PQ.then (PQ.then (PQ.blk (PQ.then PQ.body)))))))))) rfl ?_
       refine WD.off (i := 15) rfollow_spec_t18 (bt 20 65535) rfl rfl rfl rfl (by kernel_rfl) (PQ.then (PQ.blk (PQ.then (PQ.then (PQ.blk (PQ.blk (PQ.then (PQ.then (PQ.blk (PQ.then PQ.body)))))))))) rfl ?_
       refine WD.off (i := 16) rfollow_spec_t18 (bt 20 131071) rfl rfl rfl rfl (by kernel_rfl) (PQ.then (PQ.blk (PQ.then (PQ.then (PQ.blk (PQ.blk (PQ.then (PQ.then (PQ.blk (PQ.then PQ.body)))))))))) rfl ?_
       refine WD.off (i := 17) rfollow_spec_t18 (bt 20 262143) rfl rfl rfl rfl (by kernel_rfl) (PQ.then (PQ.blk (PQ.then (PQ.then (PQ.blk (PQ.blk (PQ.then (PQ.then (PQ.blk (PQ.then PQ.body)))))))))) rfl ?_
       refine WD.off (i := 18) rfollow_spec_t18 (bt 20 524287) rfl rfl rfl rfl (by kernel_rfl) (PQ.then (PQ.blk (PQ.then (PQ.then (PQ.blk (PQ.blk (PQ.then (PQ.then (PQ.blk (PQ.then PQ.body)))))))))) rfl ?_
       refine WD.pure (i := 19) rfollow_spec_t18 (bt 20 1048575) rfl rfl rfl (by kernel_rfl) (PQ.then (PQ.blk (PQ.then (PQ.then (PQ.blk (PQ.blk (PQ.then (PQ.then (PQ.blk (PQ.then PQ.body)))))))))) rfl (fun w => run_pickF rfl rfl rfl) ?_
       refine WD.done rfollow_spec_t18 (by kernel_rfl) ?_
       refine NX.go ?_
       refine WP.condF rfl rfl ?_
       refine WP.skip (NX.blk (NX.go (WP.region rfl ?_)))
       refine WO.mv rfl rfl ?_
       refine WO.val (run_add rfl rfl (IntWalk.i64_in _ (by omega))) rfl rfl rfl ?_
       refine WO.asg rfl rfl ?_
       refine WO.nil ?_
       exact NX.again (k + 1) ⟨by omega, (hS63.permT [2, 2, 3, 0, 0, 1, 0, 0, 0] (L' := (labA u.lb) :: (ptsA u.pt) :: cel g57 [Value.slice u.lb.a u.lb.l.length u.lb.cap, Value.int .i64 u.last, Value.slice u.pt.a u.pt.l.length u.pt.cap] 99 :: own ra A.length rc 99 3 (A.flatMap mrc) :: allA mrA A :: (rsA b1.rs) :: allA mrA b1.rs.l :: X :: allA blA bs :: L) rfl).drop.drop.drop⟩ (by show b1.rs.l.length - (k + 1) < b1.rs.l.length - k; omega) (Sub.cons rfl (Sub.cons rfl (Sub.cons rfl (Sub.consE rfl (by congr 1) (Sub.nil _)))))
     ·
      refine WP.exit (NX.thenExit (NX.thenExit ?_))
      refine NX.blkExit ?_
      refine NX.blk (NX.go (WP.region rfl ?_))
      refine WO.mv rfl rfl ?_
      refine WO.val (run_add rfl rfl (IntWalk.i64_in _ (by omega))) rfl rfl rfl ?_
      refine WO.asg rfl rfl ?_
      refine WO.nil ?_
      exact NX.again (i + 1) ⟨by omega, hS55.drop.drop.drop.drop⟩ (by show bs.length - (i + 1) < bs.length - i; omega) (Sub.cons rfl (Sub.consE rfl (by congr 1) (Sub.nil _)))
  ·
   refine WP.exit (NX.thenExit (NX.thenExit ?_))
   refine NX.blkExit ?_
   refine NX.go (WP.seq (WP.region rfl ?_))
   refine WO.asg rfl rfl ?_
   refine WO.nil (NX.go (WP.ret ?_))
   refine NX.done (l := [.tmp 2]) rfl rfl ?_
   exact ⟨_, rfl, fun _ => hchk, hS5⟩
end Go.Proofs.YtidoidoelgfnaaaGreatDoor.SL
