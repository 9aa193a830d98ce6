import Derived.Test.YtidoidoelgfnaaaGreatDoorKg1M
import Derived.Test.YtidoidoelgfnaaaGreatDoorKrmM
/- What is wrong with labels, with records: the reference. -/
namespace Go.Proofs.YtidoidoelgfnaaaGreatDoor.SL
open Go.RowKit Go.Proofs.YtidoidoelgfnaaaGreatDoor
open Go.Proofs.YtidoidoelgfnaaaGreatDoorW.PrintLast (rtab opsOf)
set_option linter.unusedVariables false
set_option linter.unusedSimpArgs false

theorem gtS_of {a b : List UInt8} (h : (strLt a b || decide (a = b)) = false) : gtS a b = true := by unfold gtS; rw [h]; rfl
theorem gtS_not {a b : List UInt8} (h : (strLt a b || decide (a = b)) = true) : gtS a b = false := by unfold gtS; rw [h]; rfl
theorem rchk10_spec_t6 : rtab .any (opsOf Tryz.f49 6) = (true, [([], []), ([], []), ([0, 1], [0, 1]), ([2], [2]), ([3], [3]), ([4], [4]), ([5], [5]), ([6, 5], [6]), ([7], [7]), ([7], [7]), ([8, 9, 7], [7, 8, 9]), ([10, 7], [7, 10]), ([11, 7], [7, 11]), ([12, 7, 7], [7, 12]), ([13, 7], [7, 13]), ([7, 14], [7, 14]), ([15, 13], [15]), ([16], [16]), ([17, 16], [16, 17]), ([18, 16, 16], [16, 18]), ([19], [19]), ([19], [19]), ([20, 21, 19], [19, 20, 21]), ([22, 19], [19, 22]), ([23, 19], [19, 23]), ([19], [19]), ([19], [19]), ([26, 19], [19, 26]), ([25, 27, 19], [19, 25, 27]), ([28, 19], [19, 28]), ([29, 19], [19, 29]), ([24, 30, 19], [19, 24, 30]), ([19, 31, 16], [16, 19, 31]), ([16, 32], [16, 32])]) := by kernel_rfl
theorem rchk10_spec {B w : World} {L : List HP} {X : HP} {a : Option Addr} {cap : Nat} {l : List Pr} (hX : ∀ {L : List HP} {w : World}, St B (X :: L) w → Rd w a l.length 2 (l.flatMap prc)) (hb : SzP l) (hl : l.length ≤ 4398046511104) (hS : St B (X :: L) w) : Does Tryz.prog 49 [Value.slice a l.length cap] w (fun v w1 => v = .int .i64 (if chk l = true then 0 else 16) ∧ St B (X :: L) w1) := by
 refine enter (n := 52) Tryz.func49 rfl rfl [Value.slice a l.length cap] rfl ?_
 refine WP.seq (WP.region rfl ?_)
 refine WO.asg rfl rfl ?_
 refine WO.nil (NX.go (WP.seq (WP.seq (WP.region rfl ?_))))
 refine WO.mv rfl rfl ?_
 refine WO.val (run_len rfl Tryz.underlying65 rfl) rfl rfl rfl ?_
 refine WO.val (run_lss rfl rfl) rfl rfl rfl ?_
 refine WO.mv rfl rfl ?_
 by_cases g7 : ((l.length : Nat) : Int) < 1
 ·
  refine WO.off rfl rfl (decide_eq_true g7) rfl ?_
  refine WO.off rfl rfl (decide_eq_true g7) rfl ?_
  refine WO.off rfl rfl (decide_eq_true g7) rfl ?_
  refine WO.val (run_pickT rfl (decide_eq_true g7) rfl) rfl rfl rfl ?_
  refine WO.nil (NX.go ?_)
  refine WP.condT rfl rfl ?_
  refine WP.seq (WP.region rfl ?_)
  refine WO.asg rfl rfl ?_
  refine WO.nil (NX.go (WP.ret (NX.thenRet ?_)))
  refine NX.done (l := [.tmp 2]) rfl rfl ?_
  exact ⟨congrArg (Value.int .i64) (if_neg (by simp [chk]; intros; omega)).symm, hS⟩
 ·
  refine WO.on rfl rfl (decide_eq_false g7) ?_
  refine WO.mv rfl rfl ?_
  refine WO.on rfl rfl (decide_eq_false g7) ?_
  refine WO.val (run_len rfl Tryz.underlying65 rfl) rfl rfl rfl ?_
  refine WO.on rfl rfl (decide_eq_false g7) ?_
  refine WO.val (run_gtr rfl rfl) rfl rfl rfl ?_
  refine WO.val (run_pickF rfl (decide_eq_false g7) rfl) rfl rfl rfl ?_
  refine WO.nil (NX.go ?_)
  refine WP.condP rfl (fun g11 => ?_) (fun g11 => ?_)
  ·
   refine WP.seq (WP.region rfl ?_)
   refine WO.asg rfl rfl ?_
   refine WO.nil (NX.go (WP.ret (NX.thenRet ?_)))
   refine NX.done (l := [.tmp 2]) rfl rfl ?_
   exact ⟨congrArg (Value.int .i64) (if_neg (by simp [chk]; intros; omega)).symm, hS⟩
  ·
   refine WP.skip (NX.go (WP.seq (WP.seq (WP.region rfl ?_))))
   refine WO.asg rfl rfl ?_
   refine WO.nil (NX.go (WP.block ?_))
   refine WP.loop (α := Nat × List UInt8) (fun x => match x with | ⟨i, last⟩ => [(0, Value.slice a l.length cap), (3, Value.int .i64 (i : Int))]) (fun x w => match x with | ⟨i, last⟩ => (i ≤ l.length ∧ (i = 0 → last = []) ∧ (∀ q, 0 < i → l[i - 1]? = some q → last = q.n) ∧ chkGo last (l.drop i) = chkGo [] l) ∧ St B (X :: L) w) (fun x => match x with | ⟨i, last⟩ => l.length - i) (0, []) ⟨⟨Nat.zero_le _, fun _ => rfl, fun q h => absurd h (by omega), rfl⟩, hS⟩ (Sub.cons rfl (Sub.consE rfl (by first | rfl | first | rfl | (congr 1; omega) | (simp; done) | (simp; omega)) (Sub.nil _))) ?_
   rintro ⟨i, last⟩ w1 ⟨⟨hi, hz, hq, hgo⟩, hS1⟩
   clear hS
   refine WP.seq (WP.seq (WP.region rfl ?_))
   refine WO.mv rfl rfl ?_
   refine WO.mv rfl rfl ?_
   refine WO.val (run_len rfl Tryz.underlying65 rfl) rfl rfl rfl ?_
   refine WO.val (run_lss rfl rfl) rfl rfl rfl ?_
   refine WO.nil (NX.go ?_)
   refine WP.condP rfl (fun g15 => ?_) (fun g15 => ?_)
   ·
    refine WP.skip (NX.go (WP.seq (WP.block (WP.seq ?_))))
    obtain ⟨p, hp⟩ : ∃ p, l[i]? = some p := ⟨_, List.getElem?_eq_getElem (by omega)⟩
    have hsa : a.isSome = true := rd_isSome (hX (hS1.focus 0 rfl)) (by omega)
    have hpz := hb p (List.mem_of_getElem? hp)
    have hqe : 0 < i → ∃ q, l[i - 1]? = some q := fun h => ⟨_, List.getElem?_eq_getElem (by omega)⟩
    refine WD.start (fun w => Rd w a l.length 2 (l.flatMap prc)) [] (bt 34 0) Ty.mo rfl (by kernel_rfl) hS1 (fun _ h => (hX (h.focus 0 rfl))) (fun w2 hS2 s3 => ?_)
    clear hS1
    refine WD.pure (i := 0) rchk10_spec_t6 (bt 34 1) rfl rfl rfl (by kernel_rfl) (PQ.then (PQ.blk (PQ.then (PQ.then (PQ.blk (PQ.then PQ.body)))))) rfl (fun w => run_move rfl) ?_
    refine WD.pure (i := 1) rchk10_spec_t6 (bt 34 3) rfl rfl rfl (by kernel_rfl) (PQ.then (PQ.blk (PQ.then (PQ.then (PQ.blk (PQ.then PQ.body)))))) rfl (fun w => run_move rfl) ?_
    refine WD.take (i := 2) rchk10_spec_t6 (bt 34 7) s3 rfl rfl rfl (by kernel_rfl) (PQ.then (PQ.blk (PQ.then (PQ.then (PQ.blk (PQ.then PQ.body)))))) rfl (fun w hs => run_indexAddr (q := adr a (i * 2)) Tryz.underlying65 Ty.sz105 rfl rfl (by omega) (by omega) ((hs).2.1 (by omega)) rfl) ?_
    refine WD.pure (i := 3) rchk10_spec_t6 (bt 34 15) rfl rfl rfl (by kernel_rfl) (PQ.then (PQ.blk (PQ.then (PQ.then (PQ.blk (PQ.then PQ.body)))))) rfl (fun w => run_fieldAddr (q := (adr a (i * 2 + 0))) (show fieldB Tryz.prog 105 0 = some 0 from by kernel_rfl) rfl (adr_add _ (by assumption) _ _)) ?_
    refine WD.take (i := 4) rchk10_spec_t6 (bt 34 31) s3 rfl rfl rfl (by kernel_rfl) (PQ.then (PQ.blk (PQ.then (PQ.then (PQ.blk (PQ.then PQ.body)))))) rfl (fun w hs => run_load Ty.ag9 rfl ((hs).cell ((flat_get prc_len hp (j := 0) (by decide)).trans rfl))) ?_
    refine WD.one (i := 5) rchk10_spec_t6 (bt 34 63) rfl (by kernel_rfl) ?_
    refine WO.call rfl rfl Ty.hd83 rfl (rname_spec p.n (by omega) hS2) (fun v5 w4 pv5 => ?_)
    obtain ⟨rfl, hS4⟩ := pv5
    clear hS2
    refine WO.nil ?_
    have s6 : Rd w4 a l.length 2 (l.flatMap prc) := (hX (hS4.focus 0 rfl))
    refine NX.held s6 ?_
    refine WD.pure (i := 6) rchk10_spec_t6 (bt 34 127) rfl rfl rfl (by kernel_rfl) (PQ.then (PQ.blk (PQ.then (PQ.then (PQ.blk (PQ.then PQ.body)))))) rfl (fun w => run_not rfl rfl) ?_
    refine WD.pure (i := 7) rchk10_spec_t6 (bt 34 255) rfl rfl rfl (by kernel_rfl) (PQ.then (PQ.blk (PQ.then (PQ.then (PQ.blk (PQ.then PQ.body)))))) rfl (fun w => run_move rfl) ?_
    rcases Bool.eq_false_or_eq_true (!(nameF p.n)) with g25 | g25
    ·
     refine WD.off (i := 8) rchk10_spec_t6 (bt 34 511) rfl rfl rfl g25 (by kernel_rfl) (PQ.then (PQ.blk (PQ.then (PQ.then (PQ.blk (PQ.then PQ.body)))))) rfl ?_
     refine WD.off (i := 9) rchk10_spec_t6 (bt 34 1023) rfl rfl rfl g25 (by kernel_rfl) (PQ.then (PQ.blk (PQ.then (PQ.then (PQ.blk (PQ.then PQ.body)))))) rfl ?_
     refine WD.off (i := 10) rchk10_spec_t6 (bt 34 2047) rfl rfl rfl g25 (by kernel_rfl) (PQ.then (PQ.blk (PQ.then (PQ.then (PQ.blk (PQ.then PQ.body)))))) rfl ?_
     refine WD.off (i := 11) rchk10_spec_t6 (bt 34 4095) rfl rfl rfl g25 (by kernel_rfl) (PQ.then (PQ.blk (PQ.then (PQ.then (PQ.blk (PQ.then PQ.body)))))) rfl ?_
     refine WD.off (i := 12) rchk10_spec_t6 (bt 34 8191) rfl rfl rfl g25 (by kernel_rfl) (PQ.then (PQ.blk (PQ.then (PQ.then (PQ.blk (PQ.then PQ.body)))))) rfl ?_
     refine WD.off (i := 13) rchk10_spec_t6 (bt 34 16383) rfl rfl rfl g25 (by kernel_rfl) (PQ.then (PQ.blk (PQ.then (PQ.then (PQ.blk (PQ.then PQ.body)))))) rfl ?_
     refine WD.off (i := 14) rchk10_spec_t6 (bt 34 32767) rfl rfl rfl g25 (by kernel_rfl) (PQ.then (PQ.blk (PQ.then (PQ.then (PQ.blk (PQ.then PQ.body)))))) rfl ?_
     refine WD.pure (i := 15) rchk10_spec_t6 (bt 34 65535) rfl rfl rfl (by kernel_rfl) (PQ.then (PQ.blk (PQ.then (PQ.then (PQ.blk (PQ.then PQ.body)))))) rfl (fun w => run_pickT rfl g25 rfl) ?_
     refine WD.pure (i := 16) rchk10_spec_t6 (bt 34 131071) rfl rfl rfl (by kernel_rfl) (PQ.then (PQ.blk (PQ.then (PQ.then (PQ.blk (PQ.then PQ.body)))))) rfl (fun w => run_move rfl) ?_
     refine WD.off (i := 17) rchk10_spec_t6 (bt 34 262143) rfl rfl rfl rfl (by kernel_rfl) (PQ.then (PQ.blk (PQ.then (PQ.then (PQ.blk (PQ.then PQ.body)))))) rfl ?_
     refine WD.off (i := 18) rchk10_spec_t6 (bt 34 524287) rfl rfl rfl rfl (by kernel_rfl) (PQ.then (PQ.blk (PQ.then (PQ.then (PQ.blk (PQ.then PQ.body)))))) rfl ?_
     refine WD.off (i := 19) rchk10_spec_t6 (bt 34 1048575) rfl rfl rfl rfl (by kernel_rfl) (PQ.then (PQ.blk (PQ.then (PQ.then (PQ.blk (PQ.then PQ.body)))))) rfl ?_
     refine WD.offU (i := 20) rchk10_spec_t6 (bt 34 2097151) rfl rfl rfl (by kernel_rfl) (PQ.then (PQ.blk (PQ.then (PQ.then (PQ.blk (PQ.then PQ.body)))))) rfl ?_
     refine WD.offU (i := 21) rchk10_spec_t6 (bt 34 4194303) rfl rfl rfl (by kernel_rfl) (PQ.then (PQ.blk (PQ.then (PQ.then (PQ.blk (PQ.then PQ.body)))))) rfl ?_
     refine WD.offU (i := 22) rchk10_spec_t6 (bt 34 8388607) rfl rfl rfl (by kernel_rfl) (PQ.then (PQ.blk (PQ.then (PQ.then (PQ.blk (PQ.then PQ.body)))))) rfl ?_
     refine WD.offU (i := 23) rchk10_spec_t6 (bt 34 16777215) rfl rfl rfl (by kernel_rfl) (PQ.then (PQ.blk (PQ.then (PQ.then (PQ.blk (PQ.then PQ.body)))))) rfl ?_
     refine WD.offU (i := 24) rchk10_spec_t6 (bt 34 33554431) rfl rfl rfl (by kernel_rfl) (PQ.then (PQ.blk (PQ.then (PQ.then (PQ.blk (PQ.then PQ.body)))))) rfl ?_
     refine WD.offU (i := 25) rchk10_spec_t6 (bt 34 67108863) rfl rfl rfl (by kernel_rfl) (PQ.then (PQ.blk (PQ.then (PQ.then (PQ.blk (PQ.then PQ.body)))))) rfl ?_
     refine WD.offU (i := 26) rchk10_spec_t6 (bt 34 134217727) rfl rfl rfl (by kernel_rfl) (PQ.then (PQ.blk (PQ.then (PQ.then (PQ.blk (PQ.then PQ.body)))))) rfl ?_
     refine WD.offU (i := 27) rchk10_spec_t6 (bt 34 268435455) rfl rfl rfl (by kernel_rfl) (PQ.then (PQ.blk (PQ.then (PQ.then (PQ.blk (PQ.then PQ.body)))))) rfl ?_
     refine WD.offU (i := 28) rchk10_spec_t6 (bt 34 536870911) rfl rfl rfl (by kernel_rfl) (PQ.then (PQ.blk (PQ.then (PQ.then (PQ.blk (PQ.then PQ.body)))))) rfl ?_
     refine WD.offU (i := 29) rchk10_spec_t6 (bt 34 1073741823) rfl rfl rfl (by kernel_rfl) (PQ.then (PQ.blk (PQ.then (PQ.then (PQ.blk (PQ.then PQ.body)))))) rfl ?_
     refine WD.offU (i := 30) rchk10_spec_t6 (bt 34 2147483647) rfl rfl rfl (by kernel_rfl) (PQ.then (PQ.blk (PQ.then (PQ.then (PQ.blk (PQ.then PQ.body)))))) rfl ?_
     refine WD.offU (i := 31) rchk10_spec_t6 (bt 34 4294967295) rfl rfl rfl (by kernel_rfl) (PQ.then (PQ.blk (PQ.then (PQ.then (PQ.blk (PQ.then PQ.body)))))) rfl ?_
     refine WD.off (i := 32) rchk10_spec_t6 (bt 34 8589934591) rfl rfl rfl rfl (by kernel_rfl) (PQ.then (PQ.blk (PQ.then (PQ.then (PQ.blk (PQ.then PQ.body)))))) rfl ?_
     refine WD.pure (i := 33) rchk10_spec_t6 (bt 34 17179869183) rfl rfl rfl (by kernel_rfl) (PQ.then (PQ.blk (PQ.then (PQ.then (PQ.blk (PQ.then PQ.body)))))) rfl (fun w => run_pickT rfl rfl rfl) ?_
     refine WD.done rchk10_spec_t6 (by kernel_rfl) ?_
     refine NX.go ?_
     refine WP.condT rfl rfl ?_
     refine WP.seq (WP.region rfl ?_)
     refine WO.asg rfl rfl ?_
     refine WO.nil (NX.go (WP.ret (NX.blkRet (NX.thenRet (NX.thenRet (NX.blkRet (NX.thenRet ?_)))))))
     refine NX.done (l := [.tmp 2]) rfl rfl ?_
     have hc : chkGo [] l = false := by rw [← hgo, drop_cons hp, chkGo]; simp at g25; rw [g25]; rfl
     exact ⟨congrArg (Value.int .i64) (if_neg (by simp [chk, hc])).symm, hS4⟩
    ·
     refine WD.pureOn (i := 8) rchk10_spec_t6 (bt 34 511) rfl rfl rfl g25 (by kernel_rfl) (PQ.then (PQ.blk (PQ.then (PQ.then (PQ.blk (PQ.then PQ.body)))))) rfl (fun w => run_move rfl) ?_
     refine WD.pureOn (i := 9) rchk10_spec_t6 (bt 34 1023) rfl rfl rfl g25 (by kernel_rfl) (PQ.then (PQ.blk (PQ.then (PQ.then (PQ.blk (PQ.then PQ.body)))))) rfl (fun w => run_move rfl) ?_
     refine WD.takeOn (i := 10) rchk10_spec_t6 (bt 34 2047) s6 rfl rfl rfl g25 (by kernel_rfl) (PQ.then (PQ.blk (PQ.then (PQ.then (PQ.blk (PQ.then PQ.body)))))) rfl (fun w hs => run_indexAddr (q := adr a (i * 2)) Tryz.underlying65 Ty.sz105 rfl rfl (by omega) (by omega) ((hs).2.1 (by omega)) rfl) ?_
     refine WD.pureOn (i := 11) rchk10_spec_t6 (bt 34 4095) rfl rfl rfl g25 (by kernel_rfl) (PQ.then (PQ.blk (PQ.then (PQ.then (PQ.blk (PQ.then PQ.body)))))) rfl (fun w => run_fieldAddr (q := (adr a (i * 2 + 1))) (show fieldB Tryz.prog 105 1 = some 1 from by kernel_rfl) rfl (adr_add _ (by assumption) _ _)) ?_
     refine WD.takeOn (i := 12) rchk10_spec_t6 (bt 34 8191) s6 rfl rfl rfl g25 (by kernel_rfl) (PQ.then (PQ.blk (PQ.then (PQ.then (PQ.blk (PQ.then PQ.body)))))) rfl (fun w hs => run_load Ty.ag9 rfl ((hs).cell ((flat_get prc_len hp (j := 1) (by decide)).trans rfl))) ?_
     refine WD.one (i := 13) rchk10_spec_t6 (bt 34 16383) rfl (by kernel_rfl) ?_
     refine WO.on rfl rfl g25 ?_
     refine WO.call rfl rfl Ty.hd84 rfl (rvalue_spec p.v (by omega) hS4) (fun v8 w7 pv8 => ?_)
     obtain ⟨rfl, hS7⟩ := pv8
     clear hS4
     refine WO.nil ?_
     have s9 : Rd w7 a l.length 2 (l.flatMap prc) := (hX (hS7.focus 0 rfl))
     refine NX.held s9 ?_
     refine WD.pureOn (i := 14) rchk10_spec_t6 (bt 34 32767) rfl rfl rfl g25 (by kernel_rfl) (PQ.then (PQ.blk (PQ.then (PQ.then (PQ.blk (PQ.then PQ.body)))))) rfl (fun w => run_not rfl rfl) ?_
     refine WD.pure (i := 15) rchk10_spec_t6 (bt 34 65535) rfl rfl rfl (by kernel_rfl) (PQ.then (PQ.blk (PQ.then (PQ.then (PQ.blk (PQ.then PQ.body)))))) rfl (fun w => run_pickF rfl g25 rfl) ?_
     refine WD.pure (i := 16) rchk10_spec_t6 (bt 34 131071) rfl rfl rfl (by kernel_rfl) (PQ.then (PQ.blk (PQ.then (PQ.then (PQ.blk (PQ.then PQ.body)))))) rfl (fun w => run_move rfl) ?_
     rcases Bool.eq_false_or_eq_true (!(valueF p.v)) with g34 | g34
     ·
      refine WD.off (i := 17) rchk10_spec_t6 (bt 34 262143) rfl rfl rfl g34 (by kernel_rfl) (PQ.then (PQ.blk (PQ.then (PQ.then (PQ.blk (PQ.then PQ.body)))))) rfl ?_
      refine WD.off (i := 18) rchk10_spec_t6 (bt 34 524287) rfl rfl rfl g34 (by kernel_rfl) (PQ.then (PQ.blk (PQ.then (PQ.then (PQ.blk (PQ.then PQ.body)))))) rfl ?_
      refine WD.off (i := 19) rchk10_spec_t6 (bt 34 1048575) rfl rfl rfl g34 (by kernel_rfl) (PQ.then (PQ.blk (PQ.then (PQ.then (PQ.blk (PQ.then PQ.body)))))) rfl ?_
      refine WD.offU (i := 20) rchk10_spec_t6 (bt 34 2097151) rfl rfl rfl (by kernel_rfl) (PQ.then (PQ.blk (PQ.then (PQ.then (PQ.blk (PQ.then PQ.body)))))) rfl ?_
      refine WD.offU (i := 21) rchk10_spec_t6 (bt 34 4194303) rfl rfl rfl (by kernel_rfl) (PQ.then (PQ.blk (PQ.then (PQ.then (PQ.blk (PQ.then PQ.body)))))) rfl ?_
      refine WD.offU (i := 22) rchk10_spec_t6 (bt 34 8388607) rfl rfl rfl (by kernel_rfl) (PQ.then (PQ.blk (PQ.then (PQ.then (PQ.blk (PQ.then PQ.body)))))) rfl ?_
      refine WD.offU (i := 23) rchk10_spec_t6 (bt 34 16777215) rfl rfl rfl (by kernel_rfl) (PQ.then (PQ.blk (PQ.then (PQ.then (PQ.blk (PQ.then PQ.body)))))) rfl ?_
      refine WD.offU (i := 24) rchk10_spec_t6 (bt 34 33554431) rfl rfl rfl (by kernel_rfl) (PQ.then (PQ.blk (PQ.then (PQ.then (PQ.blk (PQ.then PQ.body)))))) rfl ?_
      refine WD.offU (i := 25) rchk10_spec_t6 (bt 34 67108863) rfl rfl rfl (by kernel_rfl) (PQ.then (PQ.blk (PQ.then (PQ.then (PQ.blk (PQ.then PQ.body)))))) rfl ?_
      refine WD.offU (i := 26) rchk10_spec_t6 (bt 34 134217727) rfl rfl rfl (by kernel_rfl) (PQ.then (PQ.blk (PQ.then (PQ.then (PQ.blk (PQ.then PQ.body)))))) rfl ?_
      refine WD.offU (i := 27) rchk10_spec_t6 (bt 34 268435455) rfl rfl rfl (by kernel_rfl) (PQ.then (PQ.blk (PQ.then (PQ.then (PQ.blk (PQ.then PQ.body)))))) rfl ?_
      refine WD.offU (i := 28) rchk10_spec_t6 (bt 34 536870911) rfl rfl rfl (by kernel_rfl) (PQ.then (PQ.blk (PQ.then (PQ.then (PQ.blk (PQ.then PQ.body)))))) rfl ?_
      refine WD.offU (i := 29) rchk10_spec_t6 (bt 34 1073741823) rfl rfl rfl (by kernel_rfl) (PQ.then (PQ.blk (PQ.then (PQ.then (PQ.blk (PQ.then PQ.body)))))) rfl ?_
      refine WD.offU (i := 30) rchk10_spec_t6 (bt 34 2147483647) rfl rfl rfl (by kernel_rfl) (PQ.then (PQ.blk (PQ.then (PQ.then (PQ.blk (PQ.then PQ.body)))))) rfl ?_
      refine WD.offU (i := 31) rchk10_spec_t6 (bt 34 4294967295) rfl rfl rfl (by kernel_rfl) (PQ.then (PQ.blk (PQ.then (PQ.then (PQ.blk (PQ.then PQ.body)))))) rfl ?_
      refine WD.off (i := 32) rchk10_spec_t6 (bt 34 8589934591) rfl rfl rfl g34 (by kernel_rfl) (PQ.then (PQ.blk (PQ.then (PQ.then (PQ.blk (PQ.then PQ.body)))))) rfl ?_
      refine WD.pure (i := 33) rchk10_spec_t6 (bt 34 17179869183) rfl rfl rfl (by kernel_rfl) (PQ.then (PQ.blk (PQ.then (PQ.then (PQ.blk (PQ.then PQ.body)))))) rfl (fun w => run_pickT rfl g34 rfl) ?_
      refine WD.done rchk10_spec_t6 (by kernel_rfl) ?_
      refine NX.go ?_
      refine WP.condT rfl rfl ?_
      refine WP.seq (WP.region rfl ?_)
      refine WO.asg rfl rfl ?_
      refine WO.nil (NX.go (WP.ret (NX.blkRet (NX.thenRet (NX.thenRet (NX.blkRet (NX.thenRet ?_)))))))
      refine NX.done (l := [.tmp 2]) rfl rfl ?_
      have hc : chkGo [] l = false := by rw [← hgo, drop_cons hp, chkGo]; simp at g34; rw [g34]; simp
      exact ⟨congrArg (Value.int .i64) (if_neg (by simp [chk, hc])).symm, hS7⟩
     ·
      refine WD.pureOn (i := 17) rchk10_spec_t6 (bt 34 262143) rfl rfl rfl g34 (by kernel_rfl) (PQ.then (PQ.blk (PQ.then (PQ.then (PQ.blk (PQ.then PQ.body)))))) rfl (fun w => run_move rfl) ?_
      refine WD.pureOn (i := 18) rchk10_spec_t6 (bt 34 524287) rfl rfl rfl g34 (by kernel_rfl) (PQ.then (PQ.blk (PQ.then (PQ.then (PQ.blk (PQ.then PQ.body)))))) rfl (fun w => run_gtr rfl rfl) ?_
      refine WD.pureOn (i := 19) rchk10_spec_t6 (bt 34 1048575) rfl rfl rfl g34 (by kernel_rfl) (PQ.then (PQ.blk (PQ.then (PQ.then (PQ.blk (PQ.then PQ.body)))))) rfl (fun w => run_move rfl) ?_
      by_cases g37 : 0 < (i : Int)
      ·
       obtain ⟨q, hq1⟩ := hqe (by omega)
       refine WD.pureOn (i := 20) rchk10_spec_t6 (bt 34 2097151) rfl rfl rfl (decide_eq_true g37) (by kernel_rfl) (PQ.then (PQ.blk (PQ.then (PQ.then (PQ.blk (PQ.then PQ.body)))))) rfl (fun w => run_move rfl) ?_
       refine WD.pureOn (i := 21) rchk10_spec_t6 (bt 34 4194303) rfl rfl rfl (decide_eq_true g37) (by kernel_rfl) (PQ.then (PQ.blk (PQ.then (PQ.then (PQ.blk (PQ.then PQ.body)))))) rfl (fun w => run_move rfl) ?_
       refine WD.takeOn (i := 22) rchk10_spec_t6 (bt 34 8388607) s9 rfl rfl rfl (decide_eq_true g37) (by kernel_rfl) (PQ.then (PQ.blk (PQ.then (PQ.then (PQ.blk (PQ.then PQ.body)))))) rfl (fun w hs => run_indexAddr (q := adr a (i * 2)) Tryz.underlying65 Ty.sz105 rfl rfl (by omega) (by omega) ((hs).2.1 (by omega)) rfl) ?_
       refine WD.pureOn (i := 23) rchk10_spec_t6 (bt 34 16777215) rfl rfl rfl (decide_eq_true g37) (by kernel_rfl) (PQ.then (PQ.blk (PQ.then (PQ.then (PQ.blk (PQ.then PQ.body)))))) rfl (fun w => run_fieldAddr (q := (adr a (i * 2 + 0))) (show fieldB Tryz.prog 105 0 = some 0 from by kernel_rfl) rfl (adr_add _ (by assumption) _ _)) ?_
       refine WD.takeOn (i := 24) rchk10_spec_t6 (bt 34 33554431) s9 rfl rfl rfl (decide_eq_true g37) (by kernel_rfl) (PQ.then (PQ.blk (PQ.then (PQ.then (PQ.blk (PQ.then PQ.body)))))) rfl (fun w hs => run_load Ty.ag9 rfl ((hs).cell ((flat_get prc_len hp (j := 0) (by decide)).trans rfl))) ?_
       refine WD.pureOn (i := 25) rchk10_spec_t6 (bt 34 67108863) rfl rfl rfl (decide_eq_true g37) (by kernel_rfl) (PQ.then (PQ.blk (PQ.then (PQ.then (PQ.blk (PQ.then PQ.body)))))) rfl (fun w => run_move rfl) ?_
       refine WD.pureOn (i := 26) rchk10_spec_t6 (bt 34 134217727) rfl rfl rfl (decide_eq_true g37) (by kernel_rfl) (PQ.then (PQ.blk (PQ.then (PQ.then (PQ.blk (PQ.then PQ.body)))))) rfl (fun w => run_move rfl) ?_
       refine WD.pureOn (i := 27) rchk10_spec_t6 (bt 34 268435455) rfl rfl rfl (decide_eq_true g37) (by kernel_rfl) (PQ.then (PQ.blk (PQ.then (PQ.then (PQ.blk (PQ.then PQ.body)))))) rfl (fun w => run_sub rfl rfl (IntWalk.i64_in _ (by omega))) ?_
       refine WD.takeOn (i := 28) rchk10_spec_t6 (bt 34 536870911) s9 rfl rfl rfl (decide_eq_true g37) (by kernel_rfl) (PQ.then (PQ.blk (PQ.then (PQ.then (PQ.blk (PQ.then PQ.body)))))) rfl (fun w hs => run_indexAddr (q := adr a ((i - 1) * 2)) Tryz.underlying65 Ty.sz105 rfl rfl (by omega) (by omega) ((hs).2.1 (by omega)) (by rw [show ((i : Int) - 1).toNat = i - 1 by omega])) ?_
       refine WD.pureOn (i := 29) rchk10_spec_t6 (bt 34 1073741823) rfl rfl rfl (decide_eq_true g37) (by kernel_rfl) (PQ.then (PQ.blk (PQ.then (PQ.then (PQ.blk (PQ.then PQ.body)))))) rfl (fun w => run_fieldAddr (q := (adr a ((i - 1) * 2 + 0))) (show fieldB Tryz.prog 105 0 = some 0 from by kernel_rfl) rfl (adr_add _ (by assumption) _ _)) ?_
       refine WD.takeOn (i := 30) rchk10_spec_t6 (bt 34 2147483647) s9 rfl rfl rfl (decide_eq_true g37) (by kernel_rfl) (PQ.then (PQ.blk (PQ.then (PQ.then (PQ.blk (PQ.then PQ.body)))))) rfl (fun w hs => run_load Ty.ag9 rfl ((hs).cell ((flat_get prc_len hq1 (j := 0) (by decide)).trans rfl))) ?_
       refine WD.pureOn (i := 31) rchk10_spec_t6 (bt 34 4294967295) rfl rfl rfl (decide_eq_true g37) (by kernel_rfl) (PQ.then (PQ.blk (PQ.then (PQ.then (PQ.blk (PQ.then PQ.body)))))) rfl (fun w => run_leqS rfl rfl) ?_
       refine WD.pureOn (i := 32) rchk10_spec_t6 (bt 34 8589934591) rfl rfl rfl g34 (by kernel_rfl) (PQ.then (PQ.blk (PQ.then (PQ.then (PQ.blk (PQ.then PQ.body)))))) rfl (fun w => run_pickT rfl (decide_eq_true g37) rfl) ?_
       refine WD.pure (i := 33) rchk10_spec_t6 (bt 34 17179869183) rfl rfl rfl (by kernel_rfl) (PQ.then (PQ.blk (PQ.then (PQ.then (PQ.blk (PQ.then PQ.body)))))) rfl (fun w => run_pickF rfl g34 rfl) ?_
       refine WD.done rchk10_spec_t6 (by kernel_rfl) ?_
       refine NX.go ?_
       refine WP.condB rfl (fun g51 => ?_) (fun g51 => ?_)
       ·
        refine WP.seq (WP.region rfl ?_)
        refine WO.asg rfl rfl ?_
        refine WO.nil (NX.go (WP.ret (NX.blkRet (NX.thenRet (NX.thenRet (NX.blkRet (NX.thenRet ?_)))))))
        refine NX.done (l := [.tmp 2]) rfl rfl ?_
        have hc : chkGo [] l = false := by rw [← hgo, drop_cons hp, chkGo]; rw [hq q (by omega) hq1, gtS_not (by simpa using g51)]; simp
        exact ⟨congrArg (Value.int .i64) (if_neg (by simp [chk, hc])).symm, hS7⟩
       ·
        refine WP.skip (NX.blk (NX.go ?_))
        have hnv : (nameF p.n && valueF p.v) = true := by simp at g25 g34; rw [g25, g34]; rfl
        have hnm : nameF p.n = true := by simpa using g25
        have hgt : gtS p.n last = true := by rw [hq q (by omega) hq1]; exact gtS_of (by simpa using g51)
        refine WP.region rfl ?_
        refine WO.mv rfl rfl ?_
        refine WO.val (run_add rfl rfl (IntWalk.i64_in _ (by omega))) rfl rfl rfl ?_
        refine WO.asg rfl rfl ?_
        refine WO.nil ?_
        exact NX.again (i + 1, p.n) ⟨⟨by omega, fun h => by omega, fun q _ h => by rw [Nat.add_sub_cancel, hp] at h; cases h; rfl, by rw [drop_cons hp, chkGo, hnv, hgt] at hgo; simpa using hgo⟩, hS7⟩ (by show l.length - (i + 1) < l.length - i; omega) (Sub.cons rfl (Sub.consE rfl (by congr 1) (Sub.nil _)))
      ·
       refine WD.off (i := 20) rchk10_spec_t6 (bt 34 2097151) rfl rfl rfl (decide_eq_false g37) (by kernel_rfl) (PQ.then (PQ.blk (PQ.then (PQ.then (PQ.blk (PQ.then PQ.body)))))) rfl ?_
       refine WD.off (i := 21) rchk10_spec_t6 (bt 34 4194303) rfl rfl rfl (decide_eq_false g37) (by kernel_rfl) (PQ.then (PQ.blk (PQ.then (PQ.then (PQ.blk (PQ.then PQ.body)))))) rfl ?_
       refine WD.off (i := 22) rchk10_spec_t6 (bt 34 8388607) rfl rfl rfl (decide_eq_false g37) (by kernel_rfl) (PQ.then (PQ.blk (PQ.then (PQ.then (PQ.blk (PQ.then PQ.body)))))) rfl ?_
       refine WD.off (i := 23) rchk10_spec_t6 (bt 34 16777215) rfl rfl rfl (decide_eq_false g37) (by kernel_rfl) (PQ.then (PQ.blk (PQ.then (PQ.then (PQ.blk (PQ.then PQ.body)))))) rfl ?_
       refine WD.off (i := 24) rchk10_spec_t6 (bt 34 33554431) rfl rfl rfl (decide_eq_false g37) (by kernel_rfl) (PQ.then (PQ.blk (PQ.then (PQ.then (PQ.blk (PQ.then PQ.body)))))) rfl ?_
       refine WD.off (i := 25) rchk10_spec_t6 (bt 34 67108863) rfl rfl rfl (decide_eq_false g37) (by kernel_rfl) (PQ.then (PQ.blk (PQ.then (PQ.then (PQ.blk (PQ.then PQ.body)))))) rfl ?_
       refine WD.off (i := 26) rchk10_spec_t6 (bt 34 134217727) rfl rfl rfl (decide_eq_false g37) (by kernel_rfl) (PQ.then (PQ.blk (PQ.then (PQ.then (PQ.blk (PQ.then PQ.body)))))) rfl ?_
       refine WD.off (i := 27) rchk10_spec_t6 (bt 34 268435455) rfl rfl rfl (decide_eq_false g37) (by kernel_rfl) (PQ.then (PQ.blk (PQ.then (PQ.then (PQ.blk (PQ.then PQ.body)))))) rfl ?_
       refine WD.off (i := 28) rchk10_spec_t6 (bt 34 536870911) rfl rfl rfl (decide_eq_false g37) (by kernel_rfl) (PQ.then (PQ.blk (PQ.then (PQ.then (PQ.blk (PQ.then PQ.body)))))) rfl ?_
       refine WD.off (i := 29) rchk10_spec_t6 (bt 34 1073741823) rfl rfl rfl (decide_eq_false g37) (by kernel_rfl) (PQ.then (PQ.blk (PQ.then (PQ.then (PQ.blk (PQ.then PQ.body)))))) rfl ?_
       refine WD.off (i := 30) rchk10_spec_t6 (bt 34 2147483647) rfl rfl rfl (decide_eq_false g37) (by kernel_rfl) (PQ.then (PQ.blk (PQ.then (PQ.then (PQ.blk (PQ.then PQ.body)))))) rfl ?_
       refine WD.off (i := 31) rchk10_spec_t6 (bt 34 4294967295) rfl rfl rfl (decide_eq_false g37) (by kernel_rfl) (PQ.then (PQ.blk (PQ.then (PQ.then (PQ.blk (PQ.then PQ.body)))))) rfl ?_
       refine WD.pureOn (i := 32) rchk10_spec_t6 (bt 34 8589934591) rfl rfl rfl g34 (by kernel_rfl) (PQ.then (PQ.blk (PQ.then (PQ.then (PQ.blk (PQ.then PQ.body)))))) rfl (fun w => run_pickF rfl (decide_eq_false g37) rfl) ?_
       refine WD.pure (i := 33) rchk10_spec_t6 (bt 34 17179869183) rfl rfl rfl (by kernel_rfl) (PQ.then (PQ.blk (PQ.then (PQ.then (PQ.blk (PQ.then PQ.body)))))) rfl (fun w => run_pickF rfl g34 rfl) ?_
       refine WD.done rchk10_spec_t6 (by kernel_rfl) ?_
       refine NX.go ?_
       refine WP.condF rfl rfl ?_
       refine WP.skip (NX.blk (NX.go ?_))
       have hnv : (nameF p.n && valueF p.v) = true := by simp at g25 g34; rw [g25, g34]; rfl
       have hnm : nameF p.n = true := by simpa using g25
       have hgt : gtS p.n last = true := by rw [hz (by omega)]; exact gt_nil (nameF_ne hnm)
       refine WP.region rfl ?_
       refine WO.mv rfl rfl ?_
       refine WO.val (run_add rfl rfl (IntWalk.i64_in _ (by omega))) rfl rfl rfl ?_
       refine WO.asg rfl rfl ?_
       refine WO.nil ?_
       exact NX.again (i + 1, p.n) ⟨⟨by omega, fun h => by omega, fun q _ h => by rw [Nat.add_sub_cancel, hp] at h; cases h; rfl, by rw [drop_cons hp, chkGo, hnv, hgt] at hgo; simpa using hgo⟩, hS7⟩ (by show l.length - (i + 1) < l.length - i; omega) (Sub.cons rfl (Sub.consE rfl (by congr 1) (Sub.nil _)))
   ·
    refine WP.exit (NX.thenExit (NX.thenExit ?_))
    refine NX.blkExit ?_
    refine NX.go (WP.seq (WP.region rfl ?_))
    refine WO.asg rfl rfl ?_
    refine WO.nil (NX.go (WP.ret ?_))
    refine NX.done (l := [.tmp 2]) rfl rfl ?_
    have hc : chk l = true := by unfold chk; rw [← hgo, List.drop_of_length_le (by omega)]; simp [chkGo]; omega
    exact ⟨congrArg (Value.int .i64) (if_pos hc).symm, hS1⟩

theorem rcheck_commit {r : Rcd} (h1 : r.k = 1) (h2 : r.ms.l.length = 0) (h3 : r.fr = 0) (h4 : r.to = 0) (h5 : 1 ≤ r.ss.l.length) (h6 : r.ss.l.length ≤ 32) : rcheck r = if smsGo r.ss.l = true then 0 else 16 := by
  unfold rcheck; rw [if_pos h1, if_neg (by simp [h2, h3, h4]), if_neg (by simp [h5, h6])]
theorem rcheck_del {r : Rcd} (h1 : r.k = 2) (h2 : r.ss.l.length = 0) : rcheck r = if ¬ mchk r.ms.l = 0 then mchk r.ms.l else if r.fr ≤ r.to then 0 else 9 := by
  unfold rcheck; rw [if_neg (by omega), if_pos h1, if_neg (by simp [h2])]
theorem r12chk_spec {B w : World} {L : List HP} (r : Rcd) (hz : SzR r) (hS : St B (recA r :: L) w) : Does Tryz.prog 15 [Value.agg #[Value.int .i64 r.k, Value.slice r.ss.a r.ss.l.length r.ss.cap, Value.slice r.ms.a r.ms.l.length r.ms.cap, Value.int .i64 r.fr, Value.int .i64 r.to]] w (fun v w1 => v = .int .i64 (rcheck r) ∧ St B (recA r :: L) w1) := by
 replace hS := recA_open hS
 have hns := hz.ns
 have hnm := hz.nm
 refine enter (n := 87) Tryz.func15 rfl rfl [Value.agg #[Value.int .i64 r.k, Value.slice r.ss.a r.ss.l.length r.ss.cap, Value.slice r.ms.a r.ms.l.length r.ms.cap, Value.int .i64 r.fr, Value.int .i64 r.to]] rfl ?_
 refine WP.seq (WP.region rfl ?_)
 refine WO.box (l := [Value.int .i64 r.k, Value.slice r.ss.a r.ss.l.length r.ss.cap, Value.slice r.ms.a r.ms.l.length r.ms.cap, Value.int .i64 r.fr, Value.int .i64 r.to]) hS rfl rfl rfl (fun g2 w1 lg2 hS1 => ?_)
 clear hS
 refine WO.asg rfl rfl ?_
 refine WO.nil (NX.go (WP.seq (WP.region rfl ?_)))
 refine WO.val (run_fieldAddr (q := ⟨g2, 0, none⟩) (show fieldB Tryz.prog 33 0 = some 0 from by kernel_rfl) rfl rfl) rfl rfl rfl ?_
 refine WO.val (run_load Ty.ag3 rfl ((hS1.cel_at 0 rfl 0).trans rfl)) rfl rfl rfl ?_
 refine WO.val (run_eql rfl rfl) rfl rfl rfl ?_
 refine WO.asg rfl rfl ?_
 refine WO.nil (NX.go (WP.seq ?_))
 refine WP.meet (α := Unit) (fun x => match x with | _ => [(1, Value.pointer (some ⟨g2, 0, none⟩))]) (fun x w => match x with | _ => ((r.k = 1 ∧ r.ms.l.length = 0 ∧ r.fr = 0 ∧ r.to = 0 ∧ 1 ≤ r.ss.l.length ∧ r.ss.l.length ≤ 32) ∨ (r.k = 2 ∧ r.ss.l.length = 0)) ∧ St B (cel g2 [Value.int .i64 r.k, Value.slice r.ss.a r.ss.l.length r.ss.cap, Value.slice r.ms.a r.ms.l.length r.ms.cap, Value.int .i64 r.fr, Value.int .i64 r.to] 33 :: (rdH r.ss.a r.ss.l.length 3 (r.ss.l.flatMap smc)) :: (rdH r.ms.a r.ms.l.length 3 (r.ms.l.flatMap mtc)) :: smsA r.ss.l :: recA r :: L) w) ?_ (fun K3 => ?_)
 ·
  rintro _ w4 ⟨hok, hS4⟩
  clear hS1
  refine NX.go (WP.seq (WP.seq (WP.region rfl ?_)))
  refine WO.asg rfl rfl ?_
  refine WO.nil (NX.go (WP.block ?_))
  refine WP.loop (α := Nat) (fun x => match x with | i => [(1, Value.pointer (some ⟨g2, 0, none⟩)), (4, Value.int .i64 (i : Int))]) (fun x w => match x with | i => (i ≤ r.ss.l.length ∧ smsGo (r.ss.l.drop i) = smsGo r.ss.l) ∧ St B (cel g2 [Value.int .i64 r.k, Value.slice r.ss.a r.ss.l.length r.ss.cap, Value.slice r.ms.a r.ms.l.length r.ms.cap, Value.int .i64 r.fr, Value.int .i64 r.to] 33 :: (rdH r.ss.a r.ss.l.length 3 (r.ss.l.flatMap smc)) :: (rdH r.ms.a r.ms.l.length 3 (r.ms.l.flatMap mtc)) :: smsA r.ss.l :: recA r :: L) w) (fun x => match x with | i => r.ss.l.length - i) 0 ⟨⟨Nat.zero_le _, rfl⟩, hS4⟩ (Sub.cons rfl (Sub.consE rfl (by first | rfl | first | rfl | (congr 1; omega) | (simp; done) | (simp; omega)) (Sub.nil _))) ?_
  rintro i w5 ⟨⟨hi, hgo⟩, hS5⟩
  clear hS4
  refine WP.seq (WP.seq (WP.region rfl ?_))
  refine WO.mv rfl rfl ?_
  refine WO.val (run_fieldAddr (q := ⟨g2, 1, none⟩) (show fieldB Tryz.prog 33 1 = some 1 from by kernel_rfl) rfl rfl) rfl rfl rfl ?_
  refine WO.val (run_load Ty.ag31 rfl ((hS5.cel_at 0 rfl 1).trans rfl)) rfl rfl rfl ?_
  refine WO.val (run_len rfl Tryz.underlying31 rfl) rfl rfl rfl ?_
  refine WO.val (run_lss rfl rfl) rfl rfl rfl ?_
  refine WO.nil (NX.go ?_)
  refine WP.condP rfl (fun g63 => ?_) (fun g63 => ?_)
  ·
   refine WP.skip (NX.go (WP.seq (WP.block (WP.seq ?_))))
   obtain ⟨z, hz1⟩ : ∃ qq, r.ss.l[i]? = some qq := ⟨_, List.getElem?_eq_getElem (by omega)⟩
   have hsa : r.ss.a.isSome = true := rd_isSome ((rdH_rd (hS5.focus 1 rfl))) (by omega)
   have hS6 := smsA_get hz1 (hS5.permT [3, 0, 0, 0, 0] (L' := smsA r.ss.l :: cel g2 [Value.int .i64 r.k, Value.slice r.ss.a r.ss.l.length r.ss.cap, Value.slice r.ms.a r.ms.l.length r.ms.cap, Value.int .i64 r.fr, Value.int .i64 r.to] 33 :: (rdH r.ss.a r.ss.l.length 3 (r.ss.l.flatMap smc)) :: (rdH r.ms.a r.ms.l.length 3 (r.ms.l.flatMap mtc)) :: recA r :: L) rfl)
   clear hS5
   have hzz := hz.s z (List.mem_of_getElem? hz1)
   refine WP.region rfl ?_
   refine WO.val (run_fieldAddr (q := ⟨g2, 1, none⟩) (show fieldB Tryz.prog 33 1 = some 1 from by kernel_rfl) rfl rfl) rfl rfl rfl ?_
   refine WO.val (run_load Ty.ag31 rfl ((hS6.cel_at 2 rfl 1).trans rfl)) rfl rfl rfl ?_
   refine WO.mv rfl rfl ?_
   refine WO.val (run_indexAddr (q := adr r.ss.a (i * 3)) Tryz.underlying31 Ty.sz83 rfl rfl (by omega) (by omega) ((rdH_rd (hS6.focus 3 rfl)).2.1 (by omega)) rfl) rfl rfl rfl ?_
   refine WO.val (run_fieldAddr (q := (adr r.ss.a (i * 3 + 0))) (show fieldB Tryz.prog 83 0 = some 0 from by kernel_rfl) rfl (adr_add _ (by assumption) _ _)) rfl rfl rfl ?_
   refine WO.val (run_load Ty.ag65 rfl ((rdH_rd (hS6.focus 3 rfl)).cell ((flat_get smc_len hz1 (j := 0) (by decide)).trans rfl))) rfl rfl rfl ?_
   refine WO.call rfl rfl Ty.hd49 rfl (rchk10_spec rdH_rd hzz.2 hzz.1 hS6) (fun v8 w7 pv8 => ?_)
   obtain ⟨rfl, hS7⟩ := pv8
   clear hS6
   refine WO.val (run_neq rfl rfl) rfl rfl rfl ?_
   refine WO.nil (NX.go ?_)
   refine WP.condP rfl (fun g73 => ?_) (fun g73 => ?_)
   ·
    have hck : chk z.lb.l = false := by cases hq : chk z.lb.l with | false => rfl | true => (rw [hq] at g73; exact absurd rfl g73)
    refine WP.seq (WP.region rfl ?_)
    refine WO.asg rfl rfl ?_
    refine WO.nil (NX.go (WP.ret (NX.blkRet (NX.thenRet (NX.thenRet (NX.blkRet (NX.thenRet ?_)))))))
    refine NX.done (l := [.tmp 2]) rfl rfl ?_
    have hsg : smsGo r.ss.l = false := by rw [← hgo, drop_cons hz1, smsGo, hck]; rfl
    refine ⟨congrArg (Value.int .i64) ?_, hS7.drop.drop.drop.drop.drop⟩
    clear hS7
    rcases hok with ⟨a1, a2, a3, a4, a5, a6⟩ | ⟨a1, a2⟩
    · rw [rcheck_commit a1 a2 a3 a4 a5 a6, hsg]; rfl
    · omega
   ·
    have hck : chk z.lb.l = true := by cases hq : chk z.lb.l with | true => rfl | false => (rw [hq] at g73; exact absurd (by decide) g73)
    refine WP.skip (NX.blk (NX.go (WP.region rfl ?_)))
    refine WO.mv rfl rfl ?_
    refine WO.val (run_add rfl rfl (IntWalk.i64_in _ (by omega))) rfl rfl rfl ?_
    refine WO.asg rfl rfl ?_
    refine WO.nil ?_
    exact NX.again (i + 1) ⟨⟨by omega, by rw [← hgo, drop_cons hz1, smsGo, hck, Bool.true_and]⟩, (hS7.permT [0, 1, 1, 1, 0, 0] (L' := (labA z.lb) :: cel g2 [Value.int .i64 r.k, Value.slice r.ss.a r.ss.l.length r.ss.cap, Value.slice r.ms.a r.ms.l.length r.ms.cap, Value.int .i64 r.fr, Value.int .i64 r.to] 33 :: (rdH r.ss.a r.ss.l.length 3 (r.ss.l.flatMap smc)) :: (rdH r.ms.a r.ms.l.length 3 (r.ms.l.flatMap mtc)) :: smsA r.ss.l :: recA r :: L) rfl).drop⟩ (by show r.ss.l.length - (i + 1) < r.ss.l.length - i; omega) (Sub.cons rfl (Sub.consE rfl (by congr 1) (Sub.nil _)))
  ·
   refine WP.exit (NX.thenExit (NX.thenExit ?_))
   refine NX.blkExit ?_
   refine NX.go (WP.seq (WP.region rfl ?_))
   refine WO.val (run_fieldAddr (q := ⟨g2, 2, none⟩) (show fieldB Tryz.prog 33 2 = some 2 from by kernel_rfl) rfl rfl) rfl rfl rfl ?_
   refine WO.val (run_load Ty.ag24 rfl ((hS5.cel_at 0 rfl 2).trans rfl)) rfl rfl rfl ?_
   have hS9 := hS5.permT [2, 0, 0, 0, 0] (L' := (rdH r.ms.a r.ms.l.length 3 (r.ms.l.flatMap mtc)) :: cel g2 [Value.int .i64 r.k, Value.slice r.ss.a r.ss.l.length r.ss.cap, Value.slice r.ms.a r.ms.l.length r.ms.cap, Value.int .i64 r.fr, Value.int .i64 r.to] 33 :: (rdH r.ss.a r.ss.l.length 3 (r.ss.l.flatMap smc)) :: smsA r.ss.l :: recA r :: L) rfl
   clear hS5
   refine WO.call rfl rfl Ty.hd50 rfl (rcheckm_spec rdH_rd hz.m hz.nm2 hS9) (fun v11 w10 pv11 => ?_)
   obtain ⟨rfl, hS10⟩ := pv11
   clear hS9
   refine WO.asg rfl rfl ?_
   refine WO.nil (NX.go (WP.seq (WP.seq (WP.region rfl ?_))))
   refine WO.mv rfl rfl ?_
   refine WO.val (run_eql rfl rfl) rfl rfl rfl ?_
   refine WO.mv rfl rfl ?_
   by_cases g79 : (mchk r.ms.l) = 0
   ·
    refine WO.on rfl rfl (decide_eq_true g79) ?_
    refine WO.val (run_fieldAddr (q := ⟨g2, 3, none⟩) (show fieldB Tryz.prog 33 3 = some 3 from by kernel_rfl) rfl rfl) rfl rfl rfl ?_
    refine WO.on rfl rfl (decide_eq_true g79) ?_
    refine WO.val (run_load Ty.ag2 rfl ((hS10.cel_at 1 rfl 3).trans rfl)) rfl rfl rfl ?_
    refine WO.on rfl rfl (decide_eq_true g79) ?_
    refine WO.val (run_fieldAddr (q := ⟨g2, 4, none⟩) (show fieldB Tryz.prog 33 4 = some 4 from by kernel_rfl) rfl rfl) rfl rfl rfl ?_
    refine WO.on rfl rfl (decide_eq_true g79) ?_
    refine WO.val (run_load Ty.ag2 rfl ((hS10.cel_at 1 rfl 4).trans rfl)) rfl rfl rfl ?_
    refine WO.on rfl rfl (decide_eq_true g79) ?_
    refine WO.val (run_gtr rfl rfl) rfl rfl rfl ?_
    refine WO.val (run_pickT rfl (decide_eq_true g79) rfl) rfl rfl rfl ?_
    refine WO.nil (NX.go ?_)
    refine WP.condP rfl (fun g85 => ?_) (fun g85 => ?_)
    ·
     refine WP.region rfl ?_
     refine WO.asg rfl rfl ?_
     refine WO.nil (NX.go (WP.seq (WP.region rfl ?_)))
     refine WO.mv rfl rfl ?_
     refine WO.asg rfl rfl ?_
     refine WO.nil (NX.go (WP.ret ?_))
     refine NX.done (l := [.tmp 2]) rfl rfl ?_
     have hsg : smsGo r.ss.l = true := by rw [← hgo, List.drop_of_length_le (by omega)]; rfl
     have hm0 : r.ms.l.length = 0 → mchk r.ms.l = 0 := fun h => by rw [List.length_eq_zero_iff.1 h]; rfl
     refine ⟨congrArg (Value.int .i64) ?_, hS10.drop.drop.drop.drop⟩
     clear hS10
     rcases hok with ⟨a1, a2, a3, a4, a5, a6⟩ | ⟨a1, a2⟩
     · omega
     · rw [rcheck_del a1 a2, if_neg (by simp [g79]), if_neg (by omega)]
    ·
     refine WP.skip (NX.go (WP.seq (WP.region rfl ?_)))
     refine WO.mv rfl rfl ?_
     refine WO.asg rfl rfl ?_
     refine WO.nil (NX.go (WP.ret ?_))
     refine NX.done (l := [.tmp 2]) rfl rfl ?_
     have hsg : smsGo r.ss.l = true := by rw [← hgo, List.drop_of_length_le (by omega)]; rfl
     have hm0 : r.ms.l.length = 0 → mchk r.ms.l = 0 := fun h => by rw [List.length_eq_zero_iff.1 h]; rfl
     refine ⟨congrArg (Value.int .i64) ?_, hS10.drop.drop.drop.drop⟩
     clear hS10
     rcases hok with ⟨a1, a2, a3, a4, a5, a6⟩ | ⟨a1, a2⟩
     · rw [rcheck_commit a1 a2 a3 a4 a5 a6, hsg, g79]; rfl
     · rw [rcheck_del a1 a2, if_neg (by simp [g79]), if_pos (by omega), g79]
   ·
    refine WO.off rfl rfl (decide_eq_false g79) rfl ?_
    refine WO.off rfl rfl (decide_eq_false g79) rfl ?_
    refine WO.off rfl rfl (decide_eq_false g79) rfl ?_
    refine WO.off rfl rfl (decide_eq_false g79) rfl ?_
    refine WO.off rfl rfl (decide_eq_false g79) rfl ?_
    refine WO.val (run_pickF rfl (decide_eq_false g79) rfl) rfl rfl rfl ?_
    refine WO.nil (NX.go ?_)
    refine WP.condF rfl rfl ?_
    refine WP.skip (NX.go (WP.seq (WP.region rfl ?_)))
    refine WO.mv rfl rfl ?_
    refine WO.asg rfl rfl ?_
    refine WO.nil (NX.go (WP.ret ?_))
    refine NX.done (l := [.tmp 2]) rfl rfl ?_
    have hsg : smsGo r.ss.l = true := by rw [← hgo, List.drop_of_length_le (by omega)]; rfl
    have hm0 : r.ms.l.length = 0 → mchk r.ms.l = 0 := fun h => by rw [List.length_eq_zero_iff.1 h]; rfl
    refine ⟨congrArg (Value.int .i64) ?_, hS10.drop.drop.drop.drop⟩
    clear hS10
    rcases hok with ⟨a1, a2, a3, a4, a5, a6⟩ | ⟨a1, a2⟩
    · exact absurd (hm0 a2) g79
    · rw [rcheck_del a1 a2, if_pos g79]
 ·
  refine WP.block (WP.seq (WP.region rfl ?_))
  refine WO.mv rfl rfl ?_
  refine WO.val (run_notP rfl) rfl rfl rfl ?_
  refine WO.mv rfl rfl ?_
  by_cases g12 : ¬ (r.k = 1)
  ·
   refine WO.on rfl rfl (decide_eq_true g12) ?_
   refine WO.val (run_fieldAddr (q := ⟨g2, 0, none⟩) (show fieldB Tryz.prog 33 0 = some 0 from by kernel_rfl) rfl rfl) rfl rfl rfl ?_
   refine WO.on rfl rfl (decide_eq_true g12) ?_
   refine WO.val (run_load Ty.ag3 rfl ((hS1.cel_at 0 rfl 0).trans rfl)) rfl rfl rfl ?_
   refine WO.on rfl rfl (decide_eq_true g12) ?_
   refine WO.val (run_neq rfl rfl) rfl rfl rfl ?_
   refine WO.val (run_pickT rfl (decide_eq_true g12) rfl) rfl rfl rfl ?_
   refine WO.asg rfl rfl ?_
   refine WO.nil (NX.go ?_)
   refine WP.condP rfl (fun g9 => ?_) (fun g9 => ?_)
   ·
    refine WP.seq (WP.region rfl ?_)
    refine WO.asg rfl rfl ?_
    refine WO.nil (NX.go (WP.ret (NX.blkRet (NX.thenRet ?_))))
    refine NX.done (l := [.tmp 2]) rfl rfl ?_
    refine ⟨congrArg (Value.int .i64) ?_, hS1.drop.drop.drop.drop⟩
    clear hS1
    unfold rcheck
    repeat split
    all_goals first | rfl | omega
   ·
    refine WP.seq (WP.region rfl ?_)
    refine WO.mv rfl rfl ?_
    refine WO.mv rfl rfl ?_
    by_cases g19 : r.k = 1
    ·
     refine WO.on rfl rfl (decide_eq_true g19) ?_
     refine WO.val (run_fieldAddr (q := ⟨g2, 2, none⟩) (show fieldB Tryz.prog 33 2 = some 2 from by kernel_rfl) rfl rfl) rfl rfl rfl ?_
     refine WO.on rfl rfl (decide_eq_true g19) ?_
     refine WO.val (run_load Ty.ag24 rfl ((hS1.cel_at 0 rfl 2).trans rfl)) rfl rfl rfl ?_
     refine WO.on rfl rfl (decide_eq_true g19) ?_
     refine WO.val (run_len rfl Tryz.underlying24 rfl) rfl rfl rfl ?_
     refine WO.on rfl rfl (decide_eq_true g19) ?_
     refine WO.val (run_gtr rfl rfl) rfl rfl rfl ?_
     refine WO.on rfl rfl (decide_eq_true g19) ?_
     refine WO.mv rfl rfl ?_
     by_cases g24 : 0 < ((r.ms.l.length : Nat) : Int)
     ·
      refine WO.off rfl rfl (decide_eq_true g24) rfl ?_
      refine WO.off rfl rfl (decide_eq_true g24) rfl ?_
      refine WO.off rfl rfl (decide_eq_true g24) rfl ?_
      refine WO.on rfl rfl (decide_eq_true g19) ?_
      refine WO.val (run_pickT rfl (decide_eq_true g24) rfl) rfl rfl rfl ?_
      refine WO.on rfl rfl (decide_eq_true g19) ?_
      refine WO.mv rfl rfl ?_
      refine WO.off rfl rfl rfl rfl ?_
      refine WO.off rfl rfl rfl rfl ?_
      refine WO.off rfl rfl rfl rfl ?_
      refine WO.on rfl rfl (decide_eq_true g19) ?_
      refine WO.val (run_pickT rfl rfl rfl) rfl rfl rfl ?_
      refine WO.val (run_pickT rfl (decide_eq_true g19) rfl) rfl rfl rfl ?_
      refine WO.mv rfl rfl ?_
      refine WO.off rfl rfl rfl rfl ?_
      refine WO.off rfl rfl rfl rfl ?_
      refine WO.off rfl rfl rfl rfl ?_
      refine WO.offU rfl rfl rfl ?_
      refine WO.offU rfl rfl rfl ?_
      refine WO.offU rfl rfl rfl ?_
      refine WO.offU rfl rfl rfl ?_
      refine WO.off rfl rfl rfl rfl ?_
      refine WO.val (run_pickT rfl rfl rfl) rfl rfl rfl ?_
      refine WO.asg rfl rfl ?_
      refine WO.nil (NX.go ?_)
      refine WP.condT rfl rfl ?_
      refine WP.seq (WP.region rfl ?_)
      refine WO.asg rfl rfl ?_
      refine WO.nil (NX.go (WP.ret (NX.blkRet (NX.thenRet ?_))))
      refine NX.done (l := [.tmp 2]) rfl rfl ?_
      refine ⟨congrArg (Value.int .i64) ?_, hS1.drop.drop.drop.drop⟩
      clear hS1
      unfold rcheck
      repeat split
      all_goals first | rfl | omega
     ·
      refine WO.on rfl rfl (decide_eq_false g24) ?_
      refine WO.val (run_fieldAddr (q := ⟨g2, 3, none⟩) (show fieldB Tryz.prog 33 3 = some 3 from by kernel_rfl) rfl rfl) rfl rfl rfl ?_
      refine WO.on rfl rfl (decide_eq_false g24) ?_
      refine WO.val (run_load Ty.ag2 rfl ((hS1.cel_at 0 rfl 3).trans rfl)) rfl rfl rfl ?_
      refine WO.on rfl rfl (decide_eq_false g24) ?_
      refine WO.val (run_neq rfl rfl) rfl rfl rfl ?_
      refine WO.on rfl rfl (decide_eq_true g19) ?_
      refine WO.val (run_pickF rfl (decide_eq_false g24) rfl) rfl rfl rfl ?_
      refine WO.on rfl rfl (decide_eq_true g19) ?_
      refine WO.mv rfl rfl ?_
      by_cases g29 : ¬ r.fr = 0
      ·
       refine WO.off rfl rfl (decide_eq_true g29) rfl ?_
       refine WO.off rfl rfl (decide_eq_true g29) rfl ?_
       refine WO.off rfl rfl (decide_eq_true g29) rfl ?_
       refine WO.on rfl rfl (decide_eq_true g19) ?_
       refine WO.val (run_pickT rfl (decide_eq_true g29) rfl) rfl rfl rfl ?_
       refine WO.val (run_pickT rfl (decide_eq_true g19) rfl) rfl rfl rfl ?_
       refine WO.mv rfl rfl ?_
       refine WO.off rfl rfl rfl rfl ?_
       refine WO.off rfl rfl rfl rfl ?_
       refine WO.off rfl rfl rfl rfl ?_
       refine WO.offU rfl rfl rfl ?_
       refine WO.offU rfl rfl rfl ?_
       refine WO.offU rfl rfl rfl ?_
       refine WO.offU rfl rfl rfl ?_
       refine WO.off rfl rfl rfl rfl ?_
       refine WO.val (run_pickT rfl rfl rfl) rfl rfl rfl ?_
       refine WO.asg rfl rfl ?_
       refine WO.nil (NX.go ?_)
       refine WP.condT rfl rfl ?_
       refine WP.seq (WP.region rfl ?_)
       refine WO.asg rfl rfl ?_
       refine WO.nil (NX.go (WP.ret (NX.blkRet (NX.thenRet ?_))))
       refine NX.done (l := [.tmp 2]) rfl rfl ?_
       refine ⟨congrArg (Value.int .i64) ?_, hS1.drop.drop.drop.drop⟩
       clear hS1
       unfold rcheck
       repeat split
       all_goals first | rfl | omega
      ·
       refine WO.on rfl rfl (decide_eq_false g29) ?_
       refine WO.val (run_fieldAddr (q := ⟨g2, 4, none⟩) (show fieldB Tryz.prog 33 4 = some 4 from by kernel_rfl) rfl rfl) rfl rfl rfl ?_
       refine WO.on rfl rfl (decide_eq_false g29) ?_
       refine WO.val (run_load Ty.ag2 rfl ((hS1.cel_at 0 rfl 4).trans rfl)) rfl rfl rfl ?_
       refine WO.on rfl rfl (decide_eq_false g29) ?_
       refine WO.val (run_neq rfl rfl) rfl rfl rfl ?_
       refine WO.on rfl rfl (decide_eq_true g19) ?_
       refine WO.val (run_pickF rfl (decide_eq_false g29) rfl) rfl rfl rfl ?_
       refine WO.val (run_pickT rfl (decide_eq_true g19) rfl) rfl rfl rfl ?_
       refine WO.mv rfl rfl ?_
       by_cases g35 : ¬ r.to = 0
       ·
        refine WO.off rfl rfl (decide_eq_true g35) rfl ?_
        refine WO.off rfl rfl (decide_eq_true g35) rfl ?_
        refine WO.off rfl rfl (decide_eq_true g35) rfl ?_
        refine WO.offU rfl rfl rfl ?_
        refine WO.offU rfl rfl rfl ?_
        refine WO.offU rfl rfl rfl ?_
        refine WO.offU rfl rfl rfl ?_
        refine WO.off rfl rfl (decide_eq_true g35) rfl ?_
        refine WO.val (run_pickT rfl (decide_eq_true g35) rfl) rfl rfl rfl ?_
        refine WO.asg rfl rfl ?_
        refine WO.nil (NX.go ?_)
        refine WP.condT rfl rfl ?_
        refine WP.seq (WP.region rfl ?_)
        refine WO.asg rfl rfl ?_
        refine WO.nil (NX.go (WP.ret (NX.blkRet (NX.thenRet ?_))))
        refine NX.done (l := [.tmp 2]) rfl rfl ?_
        refine ⟨congrArg (Value.int .i64) ?_, hS1.drop.drop.drop.drop⟩
        clear hS1
        unfold rcheck
        repeat split
        all_goals first | rfl | omega
       ·
        refine WO.on rfl rfl (decide_eq_false g35) ?_
        refine WO.mv rfl rfl ?_
        refine WO.on rfl rfl (decide_eq_false g35) ?_
        refine WO.val (run_notP rfl) rfl rfl rfl ?_
        refine WO.on rfl rfl (decide_eq_false g35) ?_
        refine WO.mv rfl rfl ?_
        by_cases g38 : ¬ (r.k = 1)
        ·
         refine WO.on rfl rfl (decide_eq_true g38) ?_
         refine WO.val (run_fieldAddr (q := ⟨g2, 1, none⟩) (show fieldB Tryz.prog 33 1 = some 1 from by kernel_rfl) rfl rfl) rfl rfl rfl ?_
         refine WO.on rfl rfl (decide_eq_true g38) ?_
         refine WO.val (run_load Ty.ag31 rfl ((hS1.cel_at 0 rfl 1).trans rfl)) rfl rfl rfl ?_
         refine WO.on rfl rfl (decide_eq_true g38) ?_
         refine WO.val (run_len rfl Tryz.underlying31 rfl) rfl rfl rfl ?_
         refine WO.on rfl rfl (decide_eq_true g38) ?_
         refine WO.val (run_gtr rfl rfl) rfl rfl rfl ?_
         refine WO.on rfl rfl (decide_eq_false g35) ?_
         refine WO.val (run_pickT rfl (decide_eq_true g38) rfl) rfl rfl rfl ?_
         refine WO.val (run_pickF rfl (decide_eq_false g35) rfl) rfl rfl rfl ?_
         refine WO.asg rfl rfl ?_
         refine WO.nil (NX.go ?_)
         refine WP.condP rfl (fun g17 => ?_) (fun g17 => ?_)
         ·
          refine WP.seq (WP.region rfl ?_)
          refine WO.asg rfl rfl ?_
          refine WO.nil (NX.go (WP.ret (NX.blkRet (NX.thenRet ?_))))
          refine NX.done (l := [.tmp 2]) rfl rfl ?_
          refine ⟨congrArg (Value.int .i64) ?_, hS1.drop.drop.drop.drop⟩
          clear hS1
          unfold rcheck
          repeat split
          all_goals first | rfl | omega
         ·
          refine WP.seq (WP.region rfl ?_)
          refine WO.mv rfl rfl ?_
          refine WO.mv rfl rfl ?_
          by_cases g47 : r.k = 1
          ·
           refine WO.on rfl rfl (decide_eq_true g47) ?_
           refine WO.val (run_fieldAddr (q := ⟨g2, 1, none⟩) (show fieldB Tryz.prog 33 1 = some 1 from by kernel_rfl) rfl rfl) rfl rfl rfl ?_
           refine WO.on rfl rfl (decide_eq_true g47) ?_
           refine WO.val (run_load Ty.ag31 rfl ((hS1.cel_at 0 rfl 1).trans rfl)) rfl rfl rfl ?_
           refine WO.on rfl rfl (decide_eq_true g47) ?_
           refine WO.val (run_len rfl Tryz.underlying31 rfl) rfl rfl rfl ?_
           refine WO.on rfl rfl (decide_eq_true g47) ?_
           refine WO.val (run_lss rfl rfl) rfl rfl rfl ?_
           refine WO.on rfl rfl (decide_eq_true g47) ?_
           refine WO.mv rfl rfl ?_
           by_cases g52 : ((r.ss.l.length : Nat) : Int) < 1
           ·
            refine WO.off rfl rfl (decide_eq_true g52) rfl ?_
            refine WO.off rfl rfl (decide_eq_true g52) rfl ?_
            refine WO.off rfl rfl (decide_eq_true g52) rfl ?_
            refine WO.off rfl rfl (decide_eq_true g52) rfl ?_
            refine WO.on rfl rfl (decide_eq_true g47) ?_
            refine WO.val (run_pickT rfl (decide_eq_true g52) rfl) rfl rfl rfl ?_
            refine WO.val (run_pickT rfl (decide_eq_true g47) rfl) rfl rfl rfl ?_
            refine WO.asg rfl rfl ?_
            refine WO.nil (NX.go ?_)
            refine WP.condT rfl rfl ?_
            refine WP.seq (WP.region rfl ?_)
            refine WO.asg rfl rfl ?_
            refine WO.nil (NX.go (WP.ret (NX.blkRet (NX.thenRet ?_))))
            refine NX.done (l := [.tmp 2]) rfl rfl ?_
            refine ⟨congrArg (Value.int .i64) ?_, hS1.drop.drop.drop.drop⟩
            clear hS1
            unfold rcheck
            repeat split
            all_goals first | rfl | omega
           ·
            refine WO.on rfl rfl (decide_eq_false g52) ?_
            refine WO.val (run_fieldAddr (q := ⟨g2, 1, none⟩) (show fieldB Tryz.prog 33 1 = some 1 from by kernel_rfl) rfl rfl) rfl rfl rfl ?_
            refine WO.on rfl rfl (decide_eq_false g52) ?_
            refine WO.val (run_load Ty.ag31 rfl ((hS1.cel_at 0 rfl 1).trans rfl)) rfl rfl rfl ?_
            refine WO.on rfl rfl (decide_eq_false g52) ?_
            refine WO.val (run_len rfl Tryz.underlying31 rfl) rfl rfl rfl ?_
            refine WO.on rfl rfl (decide_eq_false g52) ?_
            refine WO.val (run_gtr rfl rfl) rfl rfl rfl ?_
            refine WO.on rfl rfl (decide_eq_true g47) ?_
            refine WO.val (run_pickF rfl (decide_eq_false g52) rfl) rfl rfl rfl ?_
            refine WO.val (run_pickT rfl (decide_eq_true g47) rfl) rfl rfl rfl ?_
            refine WO.asg rfl rfl ?_
            refine WO.nil (NX.go ?_)
            refine WP.condP rfl (fun g45 => ?_) (fun g45 => ?_)
            ·
             refine WP.seq (WP.region rfl ?_)
             refine WO.asg rfl rfl ?_
             refine WO.nil (NX.go (WP.ret (NX.blkRet (NX.thenRet ?_))))
             refine NX.done (l := [.tmp 2]) rfl rfl ?_
             refine ⟨congrArg (Value.int .i64) ?_, hS1.drop.drop.drop.drop⟩
             clear hS1
             unfold rcheck
             repeat split
             all_goals first | rfl | omega
            ·
             refine WP.skip (NX.blk ?_)
             exact K3 () _ _ ⟨by omega, hS1⟩ (Sub.cons rfl (Sub.nil _))
          ·
           refine WO.off rfl rfl (decide_eq_false g47) rfl ?_
           refine WO.off rfl rfl (decide_eq_false g47) rfl ?_
           refine WO.off rfl rfl (decide_eq_false g47) rfl ?_
           refine WO.off rfl rfl (decide_eq_false g47) rfl ?_
           refine WO.off rfl rfl (decide_eq_false g47) rfl ?_
           refine WO.offU rfl rfl rfl ?_
           refine WO.offU rfl rfl rfl ?_
           refine WO.offU rfl rfl rfl ?_
           refine WO.offU rfl rfl rfl ?_
           refine WO.off rfl rfl (decide_eq_false g47) rfl ?_
           refine WO.val (run_pickF rfl (decide_eq_false g47) rfl) rfl rfl rfl ?_
           refine WO.asg rfl rfl ?_
           refine WO.nil (NX.go ?_)
           refine WP.condF rfl rfl ?_
           refine WP.skip (NX.blk ?_)
           exact K3 () _ _ ⟨by omega, hS1⟩ (Sub.cons rfl (Sub.nil _))
        ·
         refine WO.off rfl rfl (decide_eq_false g38) rfl ?_
         refine WO.off rfl rfl (decide_eq_false g38) rfl ?_
         refine WO.off rfl rfl (decide_eq_false g38) rfl ?_
         refine WO.off rfl rfl (decide_eq_false g38) rfl ?_
         refine WO.on rfl rfl (decide_eq_false g35) ?_
         refine WO.val (run_pickF rfl (decide_eq_false g38) rfl) rfl rfl rfl ?_
         refine WO.val (run_pickF rfl (decide_eq_false g35) rfl) rfl rfl rfl ?_
         refine WO.asg rfl rfl ?_
         refine WO.nil (NX.go ?_)
         refine WP.condF rfl rfl ?_
         refine WP.seq (WP.region rfl ?_)
         refine WO.mv rfl rfl ?_
         refine WO.mv rfl rfl ?_
         by_cases g47 : r.k = 1
         ·
          refine WO.on rfl rfl (decide_eq_true g47) ?_
          refine WO.val (run_fieldAddr (q := ⟨g2, 1, none⟩) (show fieldB Tryz.prog 33 1 = some 1 from by kernel_rfl) rfl rfl) rfl rfl rfl ?_
          refine WO.on rfl rfl (decide_eq_true g47) ?_
          refine WO.val (run_load Ty.ag31 rfl ((hS1.cel_at 0 rfl 1).trans rfl)) rfl rfl rfl ?_
          refine WO.on rfl rfl (decide_eq_true g47) ?_
          refine WO.val (run_len rfl Tryz.underlying31 rfl) rfl rfl rfl ?_
          refine WO.on rfl rfl (decide_eq_true g47) ?_
          refine WO.val (run_lss rfl rfl) rfl rfl rfl ?_
          refine WO.on rfl rfl (decide_eq_true g47) ?_
          refine WO.mv rfl rfl ?_
          by_cases g52 : ((r.ss.l.length : Nat) : Int) < 1
          ·
           refine WO.off rfl rfl (decide_eq_true g52) rfl ?_
           refine WO.off rfl rfl (decide_eq_true g52) rfl ?_
           refine WO.off rfl rfl (decide_eq_true g52) rfl ?_
           refine WO.off rfl rfl (decide_eq_true g52) rfl ?_
           refine WO.on rfl rfl (decide_eq_true g47) ?_
           refine WO.val (run_pickT rfl (decide_eq_true g52) rfl) rfl rfl rfl ?_
           refine WO.val (run_pickT rfl (decide_eq_true g47) rfl) rfl rfl rfl ?_
           refine WO.asg rfl rfl ?_
           refine WO.nil (NX.go ?_)
           refine WP.condT rfl rfl ?_
           refine WP.seq (WP.region rfl ?_)
           refine WO.asg rfl rfl ?_
           refine WO.nil (NX.go (WP.ret (NX.blkRet (NX.thenRet ?_))))
           refine NX.done (l := [.tmp 2]) rfl rfl ?_
           refine ⟨congrArg (Value.int .i64) ?_, hS1.drop.drop.drop.drop⟩
           clear hS1
           unfold rcheck
           repeat split
           all_goals first | rfl | omega
          ·
           refine WO.on rfl rfl (decide_eq_false g52) ?_
           refine WO.val (run_fieldAddr (q := ⟨g2, 1, none⟩) (show fieldB Tryz.prog 33 1 = some 1 from by kernel_rfl) rfl rfl) rfl rfl rfl ?_
           refine WO.on rfl rfl (decide_eq_false g52) ?_
           refine WO.val (run_load Ty.ag31 rfl ((hS1.cel_at 0 rfl 1).trans rfl)) rfl rfl rfl ?_
           refine WO.on rfl rfl (decide_eq_false g52) ?_
           refine WO.val (run_len rfl Tryz.underlying31 rfl) rfl rfl rfl ?_
           refine WO.on rfl rfl (decide_eq_false g52) ?_
           refine WO.val (run_gtr rfl rfl) rfl rfl rfl ?_
           refine WO.on rfl rfl (decide_eq_true g47) ?_
           refine WO.val (run_pickF rfl (decide_eq_false g52) rfl) rfl rfl rfl ?_
           refine WO.val (run_pickT rfl (decide_eq_true g47) rfl) rfl rfl rfl ?_
           refine WO.asg rfl rfl ?_
           refine WO.nil (NX.go ?_)
           refine WP.condP rfl (fun g45 => ?_) (fun g45 => ?_)
           ·
            refine WP.seq (WP.region rfl ?_)
            refine WO.asg rfl rfl ?_
            refine WO.nil (NX.go (WP.ret (NX.blkRet (NX.thenRet ?_))))
            refine NX.done (l := [.tmp 2]) rfl rfl ?_
            refine ⟨congrArg (Value.int .i64) ?_, hS1.drop.drop.drop.drop⟩
            clear hS1
            unfold rcheck
            repeat split
            all_goals first | rfl | omega
           ·
            refine WP.skip (NX.blk ?_)
            exact K3 () _ _ ⟨by omega, hS1⟩ (Sub.cons rfl (Sub.nil _))
         ·
          refine WO.off rfl rfl (decide_eq_false g47) rfl ?_
          refine WO.off rfl rfl (decide_eq_false g47) rfl ?_
          refine WO.off rfl rfl (decide_eq_false g47) rfl ?_
          refine WO.off rfl rfl (decide_eq_false g47) rfl ?_
          refine WO.off rfl rfl (decide_eq_false g47) rfl ?_
          refine WO.offU rfl rfl rfl ?_
          refine WO.offU rfl rfl rfl ?_
          refine WO.offU rfl rfl rfl ?_
          refine WO.offU rfl rfl rfl ?_
          refine WO.off rfl rfl (decide_eq_false g47) rfl ?_
          refine WO.val (run_pickF rfl (decide_eq_false g47) rfl) rfl rfl rfl ?_
          refine WO.asg rfl rfl ?_
          refine WO.nil (NX.go ?_)
          refine WP.condF rfl rfl ?_
          refine WP.skip (NX.blk ?_)
          exact K3 () _ _ ⟨by omega, hS1⟩ (Sub.cons rfl (Sub.nil _))
    ·
     refine WO.off rfl rfl (decide_eq_false g19) rfl ?_
     refine WO.off rfl rfl (decide_eq_false g19) rfl ?_
     refine WO.off rfl rfl (decide_eq_false g19) rfl ?_
     refine WO.off rfl rfl (decide_eq_false g19) rfl ?_
     refine WO.off rfl rfl (decide_eq_false g19) rfl ?_
     refine WO.offU rfl rfl rfl ?_
     refine WO.offU rfl rfl rfl ?_
     refine WO.offU rfl rfl rfl ?_
     refine WO.off rfl rfl (decide_eq_false g19) rfl ?_
     refine WO.off rfl rfl (decide_eq_false g19) rfl ?_
     refine WO.offU rfl rfl rfl ?_
     refine WO.offU rfl rfl rfl ?_
     refine WO.offU rfl rfl rfl ?_
     refine WO.off rfl rfl (decide_eq_false g19) rfl ?_
     refine WO.val (run_pickF rfl (decide_eq_false g19) rfl) rfl rfl rfl ?_
     refine WO.mv rfl rfl ?_
     refine WO.on rfl rfl rfl ?_
     refine WO.mv rfl rfl ?_
     refine WO.on rfl rfl rfl ?_
     refine WO.val (run_notP rfl) rfl rfl rfl ?_
     refine WO.on rfl rfl rfl ?_
     refine WO.mv rfl rfl ?_
     by_cases g38 : ¬ (r.k = 1)
     ·
      refine WO.on rfl rfl (decide_eq_true g38) ?_
      refine WO.val (run_fieldAddr (q := ⟨g2, 1, none⟩) (show fieldB Tryz.prog 33 1 = some 1 from by kernel_rfl) rfl rfl) rfl rfl rfl ?_
      refine WO.on rfl rfl (decide_eq_true g38) ?_
      refine WO.val (run_load Ty.ag31 rfl ((hS1.cel_at 0 rfl 1).trans rfl)) rfl rfl rfl ?_
      refine WO.on rfl rfl (decide_eq_true g38) ?_
      refine WO.val (run_len rfl Tryz.underlying31 rfl) rfl rfl rfl ?_
      refine WO.on rfl rfl (decide_eq_true g38) ?_
      refine WO.val (run_gtr rfl rfl) rfl rfl rfl ?_
      refine WO.on rfl rfl rfl ?_
      refine WO.val (run_pickT rfl (decide_eq_true g38) rfl) rfl rfl rfl ?_
      refine WO.val (run_pickF rfl rfl rfl) rfl rfl rfl ?_
      refine WO.asg rfl rfl ?_
      refine WO.nil (NX.go ?_)
      refine WP.condP rfl (fun g17 => ?_) (fun g17 => ?_)
      ·
       refine WP.seq (WP.region rfl ?_)
       refine WO.asg rfl rfl ?_
       refine WO.nil (NX.go (WP.ret (NX.blkRet (NX.thenRet ?_))))
       refine NX.done (l := [.tmp 2]) rfl rfl ?_
       refine ⟨congrArg (Value.int .i64) ?_, hS1.drop.drop.drop.drop⟩
       clear hS1
       unfold rcheck
       repeat split
       all_goals first | rfl | omega
      ·
       refine WP.seq (WP.region rfl ?_)
       refine WO.mv rfl rfl ?_
       refine WO.mv rfl rfl ?_
       by_cases g47 : r.k = 1
       ·
        refine WO.on rfl rfl (decide_eq_true g47) ?_
        refine WO.val (run_fieldAddr (q := ⟨g2, 1, none⟩) (show fieldB Tryz.prog 33 1 = some 1 from by kernel_rfl) rfl rfl) rfl rfl rfl ?_
        refine WO.on rfl rfl (decide_eq_true g47) ?_
        refine WO.val (run_load Ty.ag31 rfl ((hS1.cel_at 0 rfl 1).trans rfl)) rfl rfl rfl ?_
        refine WO.on rfl rfl (decide_eq_true g47) ?_
        refine WO.val (run_len rfl Tryz.underlying31 rfl) rfl rfl rfl ?_
        refine WO.on rfl rfl (decide_eq_true g47) ?_
        refine WO.val (run_lss rfl rfl) rfl rfl rfl ?_
        refine WO.on rfl rfl (decide_eq_true g47) ?_
        refine WO.mv rfl rfl ?_
        by_cases g52 : ((r.ss.l.length : Nat) : Int) < 1
        ·
         refine WO.off rfl rfl (decide_eq_true g52) rfl ?_
         refine WO.off rfl rfl (decide_eq_true g52) rfl ?_
         refine WO.off rfl rfl (decide_eq_true g52) rfl ?_
         refine WO.off rfl rfl (decide_eq_true g52) rfl ?_
         refine WO.on rfl rfl (decide_eq_true g47) ?_
         refine WO.val (run_pickT rfl (decide_eq_true g52) rfl) rfl rfl rfl ?_
         refine WO.val (run_pickT rfl (decide_eq_true g47) rfl) rfl rfl rfl ?_
         refine WO.asg rfl rfl ?_
         refine WO.nil (NX.go ?_)
         refine WP.condT rfl rfl ?_
         refine WP.seq (WP.region rfl ?_)
         refine WO.asg rfl rfl ?_
         refine WO.nil (NX.go (WP.ret (NX.blkRet (NX.thenRet ?_))))
         refine NX.done (l := [.tmp 2]) rfl rfl ?_
         refine ⟨congrArg (Value.int .i64) ?_, hS1.drop.drop.drop.drop⟩
         clear hS1
         unfold rcheck
         repeat split
         all_goals first | rfl | omega
        ·
         refine WO.on rfl rfl (decide_eq_false g52) ?_
         refine WO.val (run_fieldAddr (q := ⟨g2, 1, none⟩) (show fieldB Tryz.prog 33 1 = some 1 from by kernel_rfl) rfl rfl) rfl rfl rfl ?_
         refine WO.on rfl rfl (decide_eq_false g52) ?_
         refine WO.val (run_load Ty.ag31 rfl ((hS1.cel_at 0 rfl 1).trans rfl)) rfl rfl rfl ?_
         refine WO.on rfl rfl (decide_eq_false g52) ?_
         refine WO.val (run_len rfl Tryz.underlying31 rfl) rfl rfl rfl ?_
         refine WO.on rfl rfl (decide_eq_false g52) ?_
         refine WO.val (run_gtr rfl rfl) rfl rfl rfl ?_
         refine WO.on rfl rfl (decide_eq_true g47) ?_
         refine WO.val (run_pickF rfl (decide_eq_false g52) rfl) rfl rfl rfl ?_
         refine WO.val (run_pickT rfl (decide_eq_true g47) rfl) rfl rfl rfl ?_
         refine WO.asg rfl rfl ?_
         refine WO.nil (NX.go ?_)
         refine WP.condP rfl (fun g45 => ?_) (fun g45 => ?_)
         ·
          refine WP.seq (WP.region rfl ?_)
          refine WO.asg rfl rfl ?_
          refine WO.nil (NX.go (WP.ret (NX.blkRet (NX.thenRet ?_))))
          refine NX.done (l := [.tmp 2]) rfl rfl ?_
          refine ⟨congrArg (Value.int .i64) ?_, hS1.drop.drop.drop.drop⟩
          clear hS1
          unfold rcheck
          repeat split
          all_goals first | rfl | omega
         ·
          refine WP.skip (NX.blk ?_)
          exact K3 () _ _ ⟨by omega, hS1⟩ (Sub.cons rfl (Sub.nil _))
       ·
        refine WO.off rfl rfl (decide_eq_false g47) rfl ?_
        refine WO.off rfl rfl (decide_eq_false g47) rfl ?_
        refine WO.off rfl rfl (decide_eq_false g47) rfl ?_
        refine WO.off rfl rfl (decide_eq_false g47) rfl ?_
        refine WO.off rfl rfl (decide_eq_false g47) rfl ?_
        refine WO.offU rfl rfl rfl ?_
        refine WO.offU rfl rfl rfl ?_
        refine WO.offU rfl rfl rfl ?_
        refine WO.offU rfl rfl rfl ?_
        refine WO.off rfl rfl (decide_eq_false g47) rfl ?_
        refine WO.val (run_pickF rfl (decide_eq_false g47) rfl) rfl rfl rfl ?_
        refine WO.asg rfl rfl ?_
        refine WO.nil (NX.go ?_)
        refine WP.condF rfl rfl ?_
        refine WP.skip (NX.blk ?_)
        exact K3 () _ _ ⟨by omega, hS1⟩ (Sub.cons rfl (Sub.nil _))
     ·
      refine WO.off rfl rfl (decide_eq_false g38) rfl ?_
      refine WO.off rfl rfl (decide_eq_false g38) rfl ?_
      refine WO.off rfl rfl (decide_eq_false g38) rfl ?_
      refine WO.off rfl rfl (decide_eq_false g38) rfl ?_
      refine WO.on rfl rfl rfl ?_
      refine WO.val (run_pickF rfl (decide_eq_false g38) rfl) rfl rfl rfl ?_
      refine WO.val (run_pickF rfl rfl rfl) rfl rfl rfl ?_
      refine WO.asg rfl rfl ?_
      refine WO.nil (NX.go ?_)
      refine WP.condF rfl rfl ?_
      refine WP.seq (WP.region rfl ?_)
      refine WO.mv rfl rfl ?_
      refine WO.mv rfl rfl ?_
      by_cases g47 : r.k = 1
      ·
       refine WO.on rfl rfl (decide_eq_true g47) ?_
       refine WO.val (run_fieldAddr (q := ⟨g2, 1, none⟩) (show fieldB Tryz.prog 33 1 = some 1 from by kernel_rfl) rfl rfl) rfl rfl rfl ?_
       refine WO.on rfl rfl (decide_eq_true g47) ?_
       refine WO.val (run_load Ty.ag31 rfl ((hS1.cel_at 0 rfl 1).trans rfl)) rfl rfl rfl ?_
       refine WO.on rfl rfl (decide_eq_true g47) ?_
       refine WO.val (run_len rfl Tryz.underlying31 rfl) rfl rfl rfl ?_
       refine WO.on rfl rfl (decide_eq_true g47) ?_
       refine WO.val (run_lss rfl rfl) rfl rfl rfl ?_
       refine WO.on rfl rfl (decide_eq_true g47) ?_
       refine WO.mv rfl rfl ?_
       by_cases g52 : ((r.ss.l.length : Nat) : Int) < 1
       ·
        refine WO.off rfl rfl (decide_eq_true g52) rfl ?_
        refine WO.off rfl rfl (decide_eq_true g52) rfl ?_
        refine WO.off rfl rfl (decide_eq_true g52) rfl ?_
        refine WO.off rfl rfl (decide_eq_true g52) rfl ?_
        refine WO.on rfl rfl (decide_eq_true g47) ?_
        refine WO.val (run_pickT rfl (decide_eq_true g52) rfl) rfl rfl rfl ?_
        refine WO.val (run_pickT rfl (decide_eq_true g47) rfl) rfl rfl rfl ?_
        refine WO.asg rfl rfl ?_
        refine WO.nil (NX.go ?_)
        refine WP.condT rfl rfl ?_
        refine WP.seq (WP.region rfl ?_)
        refine WO.asg rfl rfl ?_
        refine WO.nil (NX.go (WP.ret (NX.blkRet (NX.thenRet ?_))))
        refine NX.done (l := [.tmp 2]) rfl rfl ?_
        refine ⟨congrArg (Value.int .i64) ?_, hS1.drop.drop.drop.drop⟩
        clear hS1
        unfold rcheck
        repeat split
        all_goals first | rfl | omega
       ·
        refine WO.on rfl rfl (decide_eq_false g52) ?_
        refine WO.val (run_fieldAddr (q := ⟨g2, 1, none⟩) (show fieldB Tryz.prog 33 1 = some 1 from by kernel_rfl) rfl rfl) rfl rfl rfl ?_
        refine WO.on rfl rfl (decide_eq_false g52) ?_
        refine WO.val (run_load Ty.ag31 rfl ((hS1.cel_at 0 rfl 1).trans rfl)) rfl rfl rfl ?_
        refine WO.on rfl rfl (decide_eq_false g52) ?_
        refine WO.val (run_len rfl Tryz.underlying31 rfl) rfl rfl rfl ?_
        refine WO.on rfl rfl (decide_eq_false g52) ?_
        refine WO.val (run_gtr rfl rfl) rfl rfl rfl ?_
        refine WO.on rfl rfl (decide_eq_true g47) ?_
        refine WO.val (run_pickF rfl (decide_eq_false g52) rfl) rfl rfl rfl ?_
        refine WO.val (run_pickT rfl (decide_eq_true g47) rfl) rfl rfl rfl ?_
        refine WO.asg rfl rfl ?_
        refine WO.nil (NX.go ?_)
        refine WP.condP rfl (fun g45 => ?_) (fun g45 => ?_)
        ·
         refine WP.seq (WP.region rfl ?_)
         refine WO.asg rfl rfl ?_
         refine WO.nil (NX.go (WP.ret (NX.blkRet (NX.thenRet ?_))))
         refine NX.done (l := [.tmp 2]) rfl rfl ?_
         refine ⟨congrArg (Value.int .i64) ?_, hS1.drop.drop.drop.drop⟩
         clear hS1
         unfold rcheck
         repeat split
         all_goals first | rfl | omega
        ·
         refine WP.skip (NX.blk ?_)
         exact K3 () _ _ ⟨by omega, hS1⟩ (Sub.cons rfl (Sub.nil _))
      ·
       refine WO.off rfl rfl (decide_eq_false g47) rfl ?_
       refine WO.off rfl rfl (decide_eq_false g47) rfl ?_
       refine WO.off rfl rfl (decide_eq_false g47) rfl ?_
       refine WO.off rfl rfl (decide_eq_false g47) rfl ?_
       refine WO.off rfl rfl (decide_eq_false g47) rfl ?_
       refine WO.offU rfl rfl rfl ?_
       refine WO.offU rfl rfl rfl ?_
       refine WO.offU rfl rfl rfl ?_
       refine WO.offU rfl rfl rfl ?_
       refine WO.off rfl rfl (decide_eq_false g47) rfl ?_
       refine WO.val (run_pickF rfl (decide_eq_false g47) rfl) rfl rfl rfl ?_
       refine WO.asg rfl rfl ?_
       refine WO.nil (NX.go ?_)
       refine WP.condF rfl rfl ?_
       refine WP.skip (NX.blk ?_)
       exact K3 () _ _ ⟨by omega, hS1⟩ (Sub.cons rfl (Sub.nil _))
  ·
   refine WO.off rfl rfl (decide_eq_false g12) rfl ?_
   refine WO.off rfl rfl (decide_eq_false g12) rfl ?_
   refine WO.off rfl rfl (decide_eq_false g12) rfl ?_
   refine WO.val (run_pickF rfl (decide_eq_false g12) rfl) rfl rfl rfl ?_
   refine WO.asg rfl rfl ?_
   refine WO.nil (NX.go ?_)
   refine WP.condF rfl rfl ?_
   refine WP.seq (WP.region rfl ?_)
   refine WO.mv rfl rfl ?_
   refine WO.mv rfl rfl ?_
   by_cases g19 : r.k = 1
   ·
    refine WO.on rfl rfl (decide_eq_true g19) ?_
    refine WO.val (run_fieldAddr (q := ⟨g2, 2, none⟩) (show fieldB Tryz.prog 33 2 = some 2 from by kernel_rfl) rfl rfl) rfl rfl rfl ?_
    refine WO.on rfl rfl (decide_eq_true g19) ?_
    refine WO.val (run_load Ty.ag24 rfl ((hS1.cel_at 0 rfl 2).trans rfl)) rfl rfl rfl ?_
    refine WO.on rfl rfl (decide_eq_true g19) ?_
    refine WO.val (run_len rfl Tryz.underlying24 rfl) rfl rfl rfl ?_
    refine WO.on rfl rfl (decide_eq_true g19) ?_
    refine WO.val (run_gtr rfl rfl) rfl rfl rfl ?_
    refine WO.on rfl rfl (decide_eq_true g19) ?_
    refine WO.mv rfl rfl ?_
    by_cases g24 : 0 < ((r.ms.l.length : Nat) : Int)
    ·
     refine WO.off rfl rfl (decide_eq_true g24) rfl ?_
     refine WO.off rfl rfl (decide_eq_true g24) rfl ?_
     refine WO.off rfl rfl (decide_eq_true g24) rfl ?_
     refine WO.on rfl rfl (decide_eq_true g19) ?_
     refine WO.val (run_pickT rfl (decide_eq_true g24) rfl) rfl rfl rfl ?_
     refine WO.on rfl rfl (decide_eq_true g19) ?_
     refine WO.mv rfl rfl ?_
     refine WO.off rfl rfl rfl rfl ?_
     refine WO.off rfl rfl rfl rfl ?_
     refine WO.off rfl rfl rfl rfl ?_
     refine WO.on rfl rfl (decide_eq_true g19) ?_
     refine WO.val (run_pickT rfl rfl rfl) rfl rfl rfl ?_
     refine WO.val (run_pickT rfl (decide_eq_true g19) rfl) rfl rfl rfl ?_
     refine WO.mv rfl rfl ?_
     refine WO.off rfl rfl rfl rfl ?_
     refine WO.off rfl rfl rfl rfl ?_
     refine WO.off rfl rfl rfl rfl ?_
     refine WO.offU rfl rfl rfl ?_
     refine WO.offU rfl rfl rfl ?_
     refine WO.offU rfl rfl rfl ?_
     refine WO.offU rfl rfl rfl ?_
     refine WO.off rfl rfl rfl rfl ?_
     refine WO.val (run_pickT rfl rfl rfl) rfl rfl rfl ?_
     refine WO.asg rfl rfl ?_
     refine WO.nil (NX.go ?_)
     refine WP.condT rfl rfl ?_
     refine WP.seq (WP.region rfl ?_)
     refine WO.asg rfl rfl ?_
     refine WO.nil (NX.go (WP.ret (NX.blkRet (NX.thenRet ?_))))
     refine NX.done (l := [.tmp 2]) rfl rfl ?_
     refine ⟨congrArg (Value.int .i64) ?_, hS1.drop.drop.drop.drop⟩
     clear hS1
     unfold rcheck
     repeat split
     all_goals first | rfl | omega
    ·
     refine WO.on rfl rfl (decide_eq_false g24) ?_
     refine WO.val (run_fieldAddr (q := ⟨g2, 3, none⟩) (show fieldB Tryz.prog 33 3 = some 3 from by kernel_rfl) rfl rfl) rfl rfl rfl ?_
     refine WO.on rfl rfl (decide_eq_false g24) ?_
     refine WO.val (run_load Ty.ag2 rfl ((hS1.cel_at 0 rfl 3).trans rfl)) rfl rfl rfl ?_
     refine WO.on rfl rfl (decide_eq_false g24) ?_
     refine WO.val (run_neq rfl rfl) rfl rfl rfl ?_
     refine WO.on rfl rfl (decide_eq_true g19) ?_
     refine WO.val (run_pickF rfl (decide_eq_false g24) rfl) rfl rfl rfl ?_
     refine WO.on rfl rfl (decide_eq_true g19) ?_
     refine WO.mv rfl rfl ?_
     by_cases g29 : ¬ r.fr = 0
     ·
      refine WO.off rfl rfl (decide_eq_true g29) rfl ?_
      refine WO.off rfl rfl (decide_eq_true g29) rfl ?_
      refine WO.off rfl rfl (decide_eq_true g29) rfl ?_
      refine WO.on rfl rfl (decide_eq_true g19) ?_
      refine WO.val (run_pickT rfl (decide_eq_true g29) rfl) rfl rfl rfl ?_
      refine WO.val (run_pickT rfl (decide_eq_true g19) rfl) rfl rfl rfl ?_
      refine WO.mv rfl rfl ?_
      refine WO.off rfl rfl rfl rfl ?_
      refine WO.off rfl rfl rfl rfl ?_
      refine WO.off rfl rfl rfl rfl ?_
      refine WO.offU rfl rfl rfl ?_
      refine WO.offU rfl rfl rfl ?_
      refine WO.offU rfl rfl rfl ?_
      refine WO.offU rfl rfl rfl ?_
      refine WO.off rfl rfl rfl rfl ?_
      refine WO.val (run_pickT rfl rfl rfl) rfl rfl rfl ?_
      refine WO.asg rfl rfl ?_
      refine WO.nil (NX.go ?_)
      refine WP.condT rfl rfl ?_
      refine WP.seq (WP.region rfl ?_)
      refine WO.asg rfl rfl ?_
      refine WO.nil (NX.go (WP.ret (NX.blkRet (NX.thenRet ?_))))
      refine NX.done (l := [.tmp 2]) rfl rfl ?_
      refine ⟨congrArg (Value.int .i64) ?_, hS1.drop.drop.drop.drop⟩
      clear hS1
      unfold rcheck
      repeat split
      all_goals first | rfl | omega
     ·
      refine WO.on rfl rfl (decide_eq_false g29) ?_
      refine WO.val (run_fieldAddr (q := ⟨g2, 4, none⟩) (show fieldB Tryz.prog 33 4 = some 4 from by kernel_rfl) rfl rfl) rfl rfl rfl ?_
      refine WO.on rfl rfl (decide_eq_false g29) ?_
      refine WO.val (run_load Ty.ag2 rfl ((hS1.cel_at 0 rfl 4).trans rfl)) rfl rfl rfl ?_
      refine WO.on rfl rfl (decide_eq_false g29) ?_
      refine WO.val (run_neq rfl rfl) rfl rfl rfl ?_
      refine WO.on rfl rfl (decide_eq_true g19) ?_
      refine WO.val (run_pickF rfl (decide_eq_false g29) rfl) rfl rfl rfl ?_
      refine WO.val (run_pickT rfl (decide_eq_true g19) rfl) rfl rfl rfl ?_
      refine WO.mv rfl rfl ?_
      by_cases g35 : ¬ r.to = 0
      ·
       refine WO.off rfl rfl (decide_eq_true g35) rfl ?_
       refine WO.off rfl rfl (decide_eq_true g35) rfl ?_
       refine WO.off rfl rfl (decide_eq_true g35) rfl ?_
       refine WO.offU rfl rfl rfl ?_
       refine WO.offU rfl rfl rfl ?_
       refine WO.offU rfl rfl rfl ?_
       refine WO.offU rfl rfl rfl ?_
       refine WO.off rfl rfl (decide_eq_true g35) rfl ?_
       refine WO.val (run_pickT rfl (decide_eq_true g35) rfl) rfl rfl rfl ?_
       refine WO.asg rfl rfl ?_
       refine WO.nil (NX.go ?_)
       refine WP.condT rfl rfl ?_
       refine WP.seq (WP.region rfl ?_)
       refine WO.asg rfl rfl ?_
       refine WO.nil (NX.go (WP.ret (NX.blkRet (NX.thenRet ?_))))
       refine NX.done (l := [.tmp 2]) rfl rfl ?_
       refine ⟨congrArg (Value.int .i64) ?_, hS1.drop.drop.drop.drop⟩
       clear hS1
       unfold rcheck
       repeat split
       all_goals first | rfl | omega
      ·
       refine WO.on rfl rfl (decide_eq_false g35) ?_
       refine WO.mv rfl rfl ?_
       refine WO.on rfl rfl (decide_eq_false g35) ?_
       refine WO.val (run_notP rfl) rfl rfl rfl ?_
       refine WO.on rfl rfl (decide_eq_false g35) ?_
       refine WO.mv rfl rfl ?_
       by_cases g38 : ¬ (r.k = 1)
       ·
        refine WO.on rfl rfl (decide_eq_true g38) ?_
        refine WO.val (run_fieldAddr (q := ⟨g2, 1, none⟩) (show fieldB Tryz.prog 33 1 = some 1 from by kernel_rfl) rfl rfl) rfl rfl rfl ?_
        refine WO.on rfl rfl (decide_eq_true g38) ?_
        refine WO.val (run_load Ty.ag31 rfl ((hS1.cel_at 0 rfl 1).trans rfl)) rfl rfl rfl ?_
        refine WO.on rfl rfl (decide_eq_true g38) ?_
        refine WO.val (run_len rfl Tryz.underlying31 rfl) rfl rfl rfl ?_
        refine WO.on rfl rfl (decide_eq_true g38) ?_
        refine WO.val (run_gtr rfl rfl) rfl rfl rfl ?_
        refine WO.on rfl rfl (decide_eq_false g35) ?_
        refine WO.val (run_pickT rfl (decide_eq_true g38) rfl) rfl rfl rfl ?_
        refine WO.val (run_pickF rfl (decide_eq_false g35) rfl) rfl rfl rfl ?_
        refine WO.asg rfl rfl ?_
        refine WO.nil (NX.go ?_)
        refine WP.condP rfl (fun g17 => ?_) (fun g17 => ?_)
        ·
         refine WP.seq (WP.region rfl ?_)
         refine WO.asg rfl rfl ?_
         refine WO.nil (NX.go (WP.ret (NX.blkRet (NX.thenRet ?_))))
         refine NX.done (l := [.tmp 2]) rfl rfl ?_
         refine ⟨congrArg (Value.int .i64) ?_, hS1.drop.drop.drop.drop⟩
         clear hS1
         unfold rcheck
         repeat split
         all_goals first | rfl | omega
        ·
         refine WP.seq (WP.region rfl ?_)
         refine WO.mv rfl rfl ?_
         refine WO.mv rfl rfl ?_
         by_cases g47 : r.k = 1
         ·
          refine WO.on rfl rfl (decide_eq_true g47) ?_
          refine WO.val (run_fieldAddr (q := ⟨g2, 1, none⟩) (show fieldB Tryz.prog 33 1 = some 1 from by kernel_rfl) rfl rfl) rfl rfl rfl ?_
          refine WO.on rfl rfl (decide_eq_true g47) ?_
          refine WO.val (run_load Ty.ag31 rfl ((hS1.cel_at 0 rfl 1).trans rfl)) rfl rfl rfl ?_
          refine WO.on rfl rfl (decide_eq_true g47) ?_
          refine WO.val (run_len rfl Tryz.underlying31 rfl) rfl rfl rfl ?_
          refine WO.on rfl rfl (decide_eq_true g47) ?_
          refine WO.val (run_lss rfl rfl) rfl rfl rfl ?_
          refine WO.on rfl rfl (decide_eq_true g47) ?_
          refine WO.mv rfl rfl ?_
          by_cases g52 : ((r.ss.l.length : Nat) : Int) < 1
          ·
           refine WO.off rfl rfl (decide_eq_true g52) rfl ?_
           refine WO.off rfl rfl (decide_eq_true g52) rfl ?_
           refine WO.off rfl rfl (decide_eq_true g52) rfl ?_
           refine WO.off rfl rfl (decide_eq_true g52) rfl ?_
           refine WO.on rfl rfl (decide_eq_true g47) ?_
           refine WO.val (run_pickT rfl (decide_eq_true g52) rfl) rfl rfl rfl ?_
           refine WO.val (run_pickT rfl (decide_eq_true g47) rfl) rfl rfl rfl ?_
           refine WO.asg rfl rfl ?_
           refine WO.nil (NX.go ?_)
           refine WP.condT rfl rfl ?_
           refine WP.seq (WP.region rfl ?_)
           refine WO.asg rfl rfl ?_
           refine WO.nil (NX.go (WP.ret (NX.blkRet (NX.thenRet ?_))))
           refine NX.done (l := [.tmp 2]) rfl rfl ?_
           refine ⟨congrArg (Value.int .i64) ?_, hS1.drop.drop.drop.drop⟩
           clear hS1
           unfold rcheck
           repeat split
           all_goals first | rfl | omega
          ·
           refine WO.on rfl rfl (decide_eq_false g52) ?_
           refine WO.val (run_fieldAddr (q := ⟨g2, 1, none⟩) (show fieldB Tryz.prog 33 1 = some 1 from by kernel_rfl) rfl rfl) rfl rfl rfl ?_
           refine WO.on rfl rfl (decide_eq_false g52) ?_
           refine WO.val (run_load Ty.ag31 rfl ((hS1.cel_at 0 rfl 1).trans rfl)) rfl rfl rfl ?_
           refine WO.on rfl rfl (decide_eq_false g52) ?_
           refine WO.val (run_len rfl Tryz.underlying31 rfl) rfl rfl rfl ?_
           refine WO.on rfl rfl (decide_eq_false g52) ?_
           refine WO.val (run_gtr rfl rfl) rfl rfl rfl ?_
           refine WO.on rfl rfl (decide_eq_true g47) ?_
           refine WO.val (run_pickF rfl (decide_eq_false g52) rfl) rfl rfl rfl ?_
           refine WO.val (run_pickT rfl (decide_eq_true g47) rfl) rfl rfl rfl ?_
           refine WO.asg rfl rfl ?_
           refine WO.nil (NX.go ?_)
           refine WP.condP rfl (fun g45 => ?_) (fun g45 => ?_)
           ·
            refine WP.seq (WP.region rfl ?_)
            refine WO.asg rfl rfl ?_
            refine WO.nil (NX.go (WP.ret (NX.blkRet (NX.thenRet ?_))))
            refine NX.done (l := [.tmp 2]) rfl rfl ?_
            refine ⟨congrArg (Value.int .i64) ?_, hS1.drop.drop.drop.drop⟩
            clear hS1
            unfold rcheck
            repeat split
            all_goals first | rfl | omega
           ·
            refine WP.skip (NX.blk ?_)
            exact K3 () _ _ ⟨by omega, hS1⟩ (Sub.cons rfl (Sub.nil _))
         ·
          refine WO.off rfl rfl (decide_eq_false g47) rfl ?_
          refine WO.off rfl rfl (decide_eq_false g47) rfl ?_
          refine WO.off rfl rfl (decide_eq_false g47) rfl ?_
          refine WO.off rfl rfl (decide_eq_false g47) rfl ?_
          refine WO.off rfl rfl (decide_eq_false g47) rfl ?_
          refine WO.offU rfl rfl rfl ?_
          refine WO.offU rfl rfl rfl ?_
          refine WO.offU rfl rfl rfl ?_
          refine WO.offU rfl rfl rfl ?_
          refine WO.off rfl rfl (decide_eq_false g47) rfl ?_
          refine WO.val (run_pickF rfl (decide_eq_false g47) rfl) rfl rfl rfl ?_
          refine WO.asg rfl rfl ?_
          refine WO.nil (NX.go ?_)
          refine WP.condF rfl rfl ?_
          refine WP.skip (NX.blk ?_)
          exact K3 () _ _ ⟨by omega, hS1⟩ (Sub.cons rfl (Sub.nil _))
       ·
        refine WO.off rfl rfl (decide_eq_false g38) rfl ?_
        refine WO.off rfl rfl (decide_eq_false g38) rfl ?_
        refine WO.off rfl rfl (decide_eq_false g38) rfl ?_
        refine WO.off rfl rfl (decide_eq_false g38) rfl ?_
        refine WO.on rfl rfl (decide_eq_false g35) ?_
        refine WO.val (run_pickF rfl (decide_eq_false g38) rfl) rfl rfl rfl ?_
        refine WO.val (run_pickF rfl (decide_eq_false g35) rfl) rfl rfl rfl ?_
        refine WO.asg rfl rfl ?_
        refine WO.nil (NX.go ?_)
        refine WP.condF rfl rfl ?_
        refine WP.seq (WP.region rfl ?_)
        refine WO.mv rfl rfl ?_
        refine WO.mv rfl rfl ?_
        by_cases g47 : r.k = 1
        ·
         refine WO.on rfl rfl (decide_eq_true g47) ?_
         refine WO.val (run_fieldAddr (q := ⟨g2, 1, none⟩) (show fieldB Tryz.prog 33 1 = some 1 from by kernel_rfl) rfl rfl) rfl rfl rfl ?_
         refine WO.on rfl rfl (decide_eq_true g47) ?_
         refine WO.val (run_load Ty.ag31 rfl ((hS1.cel_at 0 rfl 1).trans rfl)) rfl rfl rfl ?_
         refine WO.on rfl rfl (decide_eq_true g47) ?_
         refine WO.val (run_len rfl Tryz.underlying31 rfl) rfl rfl rfl ?_
         refine WO.on rfl rfl (decide_eq_true g47) ?_
         refine WO.val (run_lss rfl rfl) rfl rfl rfl ?_
         refine WO.on rfl rfl (decide_eq_true g47) ?_
         refine WO.mv rfl rfl ?_
         by_cases g52 : ((r.ss.l.length : Nat) : Int) < 1
         ·
          refine WO.off rfl rfl (decide_eq_true g52) rfl ?_
          refine WO.off rfl rfl (decide_eq_true g52) rfl ?_
          refine WO.off rfl rfl (decide_eq_true g52) rfl ?_
          refine WO.off rfl rfl (decide_eq_true g52) rfl ?_
          refine WO.on rfl rfl (decide_eq_true g47) ?_
          refine WO.val (run_pickT rfl (decide_eq_true g52) rfl) rfl rfl rfl ?_
          refine WO.val (run_pickT rfl (decide_eq_true g47) rfl) rfl rfl rfl ?_
          refine WO.asg rfl rfl ?_
          refine WO.nil (NX.go ?_)
          refine WP.condT rfl rfl ?_
          refine WP.seq (WP.region rfl ?_)
          refine WO.asg rfl rfl ?_
          refine WO.nil (NX.go (WP.ret (NX.blkRet (NX.thenRet ?_))))
          refine NX.done (l := [.tmp 2]) rfl rfl ?_
          refine ⟨congrArg (Value.int .i64) ?_, hS1.drop.drop.drop.drop⟩
          clear hS1
          unfold rcheck
          repeat split
          all_goals first | rfl | omega
         ·
          refine WO.on rfl rfl (decide_eq_false g52) ?_
          refine WO.val (run_fieldAddr (q := ⟨g2, 1, none⟩) (show fieldB Tryz.prog 33 1 = some 1 from by kernel_rfl) rfl rfl) rfl rfl rfl ?_
          refine WO.on rfl rfl (decide_eq_false g52) ?_
          refine WO.val (run_load Ty.ag31 rfl ((hS1.cel_at 0 rfl 1).trans rfl)) rfl rfl rfl ?_
          refine WO.on rfl rfl (decide_eq_false g52) ?_
          refine WO.val (run_len rfl Tryz.underlying31 rfl) rfl rfl rfl ?_
          refine WO.on rfl rfl (decide_eq_false g52) ?_
          refine WO.val (run_gtr rfl rfl) rfl rfl rfl ?_
          refine WO.on rfl rfl (decide_eq_true g47) ?_
          refine WO.val (run_pickF rfl (decide_eq_false g52) rfl) rfl rfl rfl ?_
          refine WO.val (run_pickT rfl (decide_eq_true g47) rfl) rfl rfl rfl ?_
          refine WO.asg rfl rfl ?_
          refine WO.nil (NX.go ?_)
          refine WP.condP rfl (fun g45 => ?_) (fun g45 => ?_)
          ·
           refine WP.seq (WP.region rfl ?_)
           refine WO.asg rfl rfl ?_
           refine WO.nil (NX.go (WP.ret (NX.blkRet (NX.thenRet ?_))))
           refine NX.done (l := [.tmp 2]) rfl rfl ?_
           refine ⟨congrArg (Value.int .i64) ?_, hS1.drop.drop.drop.drop⟩
           clear hS1
           unfold rcheck
           repeat split
           all_goals first | rfl | omega
          ·
           refine WP.skip (NX.blk ?_)
           exact K3 () _ _ ⟨by omega, hS1⟩ (Sub.cons rfl (Sub.nil _))
        ·
         refine WO.off rfl rfl (decide_eq_false g47) rfl ?_
         refine WO.off rfl rfl (decide_eq_false g47) rfl ?_
         refine WO.off rfl rfl (decide_eq_false g47) rfl ?_
         refine WO.off rfl rfl (decide_eq_false g47) rfl ?_
         refine WO.off rfl rfl (decide_eq_false g47) rfl ?_
         refine WO.offU rfl rfl rfl ?_
         refine WO.offU rfl rfl rfl ?_
         refine WO.offU rfl rfl rfl ?_
         refine WO.offU rfl rfl rfl ?_
         refine WO.off rfl rfl (decide_eq_false g47) rfl ?_
         refine WO.val (run_pickF rfl (decide_eq_false g47) rfl) rfl rfl rfl ?_
         refine WO.asg rfl rfl ?_
         refine WO.nil (NX.go ?_)
         refine WP.condF rfl rfl ?_
         refine WP.skip (NX.blk ?_)
         exact K3 () _ _ ⟨by omega, hS1⟩ (Sub.cons rfl (Sub.nil _))
   ·
    refine WO.off rfl rfl (decide_eq_false g19) rfl ?_
    refine WO.off rfl rfl (decide_eq_false g19) rfl ?_
    refine WO.off rfl rfl (decide_eq_false g19) rfl ?_
    refine WO.off rfl rfl (decide_eq_false g19) rfl ?_
    refine WO.off rfl rfl (decide_eq_false g19) rfl ?_
    refine WO.offU rfl rfl rfl ?_
    refine WO.offU rfl rfl rfl ?_
    refine WO.offU rfl rfl rfl ?_
    refine WO.off rfl rfl (decide_eq_false g19) rfl ?_
    refine WO.off rfl rfl (decide_eq_false g19) rfl ?_
    refine WO.offU rfl rfl rfl ?_
    refine WO.offU rfl rfl rfl ?_
    refine WO.offU rfl rfl rfl ?_
    refine WO.off rfl rfl (decide_eq_false g19) rfl ?_
    refine WO.val (run_pickF rfl (decide_eq_false g19) rfl) rfl rfl rfl ?_
    refine WO.mv rfl rfl ?_
    refine WO.on rfl rfl rfl ?_
    refine WO.mv rfl rfl ?_
    refine WO.on rfl rfl rfl ?_
    refine WO.val (run_notP rfl) rfl rfl rfl ?_
    refine WO.on rfl rfl rfl ?_
    refine WO.mv rfl rfl ?_
    by_cases g38 : ¬ (r.k = 1)
    ·
     refine WO.on rfl rfl (decide_eq_true g38) ?_
     refine WO.val (run_fieldAddr (q := ⟨g2, 1, none⟩) (show fieldB Tryz.prog 33 1 = some 1 from by kernel_rfl) rfl rfl) rfl rfl rfl ?_
     refine WO.on rfl rfl (decide_eq_true g38) ?_
     refine WO.val (run_load Ty.ag31 rfl ((hS1.cel_at 0 rfl 1).trans rfl)) rfl rfl rfl ?_
     refine WO.on rfl rfl (decide_eq_true g38) ?_
     refine WO.val (run_len rfl Tryz.underlying31 rfl) rfl rfl rfl ?_
     refine WO.on rfl rfl (decide_eq_true g38) ?_
     refine WO.val (run_gtr rfl rfl) rfl rfl rfl ?_
     refine WO.on rfl rfl rfl ?_
     refine WO.val (run_pickT rfl (decide_eq_true g38) rfl) rfl rfl rfl ?_
     refine WO.val (run_pickF rfl rfl rfl) rfl rfl rfl ?_
     refine WO.asg rfl rfl ?_
     refine WO.nil (NX.go ?_)
     refine WP.condP rfl (fun g17 => ?_) (fun g17 => ?_)
     ·
      refine WP.seq (WP.region rfl ?_)
      refine WO.asg rfl rfl ?_
      refine WO.nil (NX.go (WP.ret (NX.blkRet (NX.thenRet ?_))))
      refine NX.done (l := [.tmp 2]) rfl rfl ?_
      refine ⟨congrArg (Value.int .i64) ?_, hS1.drop.drop.drop.drop⟩
      clear hS1
      unfold rcheck
      repeat split
      all_goals first | rfl | omega
     ·
      refine WP.seq (WP.region rfl ?_)
      refine WO.mv rfl rfl ?_
      refine WO.mv rfl rfl ?_
      by_cases g47 : r.k = 1
      ·
       refine WO.on rfl rfl (decide_eq_true g47) ?_
       refine WO.val (run_fieldAddr (q := ⟨g2, 1, none⟩) (show fieldB Tryz.prog 33 1 = some 1 from by kernel_rfl) rfl rfl) rfl rfl rfl ?_
       refine WO.on rfl rfl (decide_eq_true g47) ?_
       refine WO.val (run_load Ty.ag31 rfl ((hS1.cel_at 0 rfl 1).trans rfl)) rfl rfl rfl ?_
       refine WO.on rfl rfl (decide_eq_true g47) ?_
       refine WO.val (run_len rfl Tryz.underlying31 rfl) rfl rfl rfl ?_
       refine WO.on rfl rfl (decide_eq_true g47) ?_
       refine WO.val (run_lss rfl rfl) rfl rfl rfl ?_
       refine WO.on rfl rfl (decide_eq_true g47) ?_
       refine WO.mv rfl rfl ?_
       by_cases g52 : ((r.ss.l.length : Nat) : Int) < 1
       ·
        refine WO.off rfl rfl (decide_eq_true g52) rfl ?_
        refine WO.off rfl rfl (decide_eq_true g52) rfl ?_
        refine WO.off rfl rfl (decide_eq_true g52) rfl ?_
        refine WO.off rfl rfl (decide_eq_true g52) rfl ?_
        refine WO.on rfl rfl (decide_eq_true g47) ?_
        refine WO.val (run_pickT rfl (decide_eq_true g52) rfl) rfl rfl rfl ?_
        refine WO.val (run_pickT rfl (decide_eq_true g47) rfl) rfl rfl rfl ?_
        refine WO.asg rfl rfl ?_
        refine WO.nil (NX.go ?_)
        refine WP.condT rfl rfl ?_
        refine WP.seq (WP.region rfl ?_)
        refine WO.asg rfl rfl ?_
        refine WO.nil (NX.go (WP.ret (NX.blkRet (NX.thenRet ?_))))
        refine NX.done (l := [.tmp 2]) rfl rfl ?_
        refine ⟨congrArg (Value.int .i64) ?_, hS1.drop.drop.drop.drop⟩
        clear hS1
        unfold rcheck
        repeat split
        all_goals first | rfl | omega
       ·
        refine WO.on rfl rfl (decide_eq_false g52) ?_
        refine WO.val (run_fieldAddr (q := ⟨g2, 1, none⟩) (show fieldB Tryz.prog 33 1 = some 1 from by kernel_rfl) rfl rfl) rfl rfl rfl ?_
        refine WO.on rfl rfl (decide_eq_false g52) ?_
        refine WO.val (run_load Ty.ag31 rfl ((hS1.cel_at 0 rfl 1).trans rfl)) rfl rfl rfl ?_
        refine WO.on rfl rfl (decide_eq_false g52) ?_
        refine WO.val (run_len rfl Tryz.underlying31 rfl) rfl rfl rfl ?_
        refine WO.on rfl rfl (decide_eq_false g52) ?_
        refine WO.val (run_gtr rfl rfl) rfl rfl rfl ?_
        refine WO.on rfl rfl (decide_eq_true g47) ?_
        refine WO.val (run_pickF rfl (decide_eq_false g52) rfl) rfl rfl rfl ?_
        refine WO.val (run_pickT rfl (decide_eq_true g47) rfl) rfl rfl rfl ?_
        refine WO.asg rfl rfl ?_
        refine WO.nil (NX.go ?_)
        refine WP.condP rfl (fun g45 => ?_) (fun g45 => ?_)
        ·
         refine WP.seq (WP.region rfl ?_)
         refine WO.asg rfl rfl ?_
         refine WO.nil (NX.go (WP.ret (NX.blkRet (NX.thenRet ?_))))
         refine NX.done (l := [.tmp 2]) rfl rfl ?_
         refine ⟨congrArg (Value.int .i64) ?_, hS1.drop.drop.drop.drop⟩
         clear hS1
         unfold rcheck
         repeat split
         all_goals first | rfl | omega
        ·
         refine WP.skip (NX.blk ?_)
         exact K3 () _ _ ⟨by omega, hS1⟩ (Sub.cons rfl (Sub.nil _))
      ·
       refine WO.off rfl rfl (decide_eq_false g47) rfl ?_
       refine WO.off rfl rfl (decide_eq_false g47) rfl ?_
       refine WO.off rfl rfl (decide_eq_false g47) rfl ?_
       refine WO.off rfl rfl (decide_eq_false g47) rfl ?_
       refine WO.off rfl rfl (decide_eq_false g47) rfl ?_
       refine WO.offU rfl rfl rfl ?_
       refine WO.offU rfl rfl rfl ?_
       refine WO.offU rfl rfl rfl ?_
       refine WO.offU rfl rfl rfl ?_
       refine WO.off rfl rfl (decide_eq_false g47) rfl ?_
       refine WO.val (run_pickF rfl (decide_eq_false g47) rfl) rfl rfl rfl ?_
       refine WO.asg rfl rfl ?_
       refine WO.nil (NX.go ?_)
       refine WP.condF rfl rfl ?_
       refine WP.skip (NX.blk ?_)
       exact K3 () _ _ ⟨by omega, hS1⟩ (Sub.cons rfl (Sub.nil _))
    ·
     refine WO.off rfl rfl (decide_eq_false g38) rfl ?_
     refine WO.off rfl rfl (decide_eq_false g38) rfl ?_
     refine WO.off rfl rfl (decide_eq_false g38) rfl ?_
     refine WO.off rfl rfl (decide_eq_false g38) rfl ?_
     refine WO.on rfl rfl rfl ?_
     refine WO.val (run_pickF rfl (decide_eq_false g38) rfl) rfl rfl rfl ?_
     refine WO.val (run_pickF rfl rfl rfl) rfl rfl rfl ?_
     refine WO.asg rfl rfl ?_
     refine WO.nil (NX.go ?_)
     refine WP.condF rfl rfl ?_
     refine WP.seq (WP.region rfl ?_)
     refine WO.mv rfl rfl ?_
     refine WO.mv rfl rfl ?_
     by_cases g47 : r.k = 1
     ·
      refine WO.on rfl rfl (decide_eq_true g47) ?_
      refine WO.val (run_fieldAddr (q := ⟨g2, 1, none⟩) (show fieldB Tryz.prog 33 1 = some 1 from by kernel_rfl) rfl rfl) rfl rfl rfl ?_
      refine WO.on rfl rfl (decide_eq_true g47) ?_
      refine WO.val (run_load Ty.ag31 rfl ((hS1.cel_at 0 rfl 1).trans rfl)) rfl rfl rfl ?_
      refine WO.on rfl rfl (decide_eq_true g47) ?_
      refine WO.val (run_len rfl Tryz.underlying31 rfl) rfl rfl rfl ?_
      refine WO.on rfl rfl (decide_eq_true g47) ?_
      refine WO.val (run_lss rfl rfl) rfl rfl rfl ?_
      refine WO.on rfl rfl (decide_eq_true g47) ?_
      refine WO.mv rfl rfl ?_
      by_cases g52 : ((r.ss.l.length : Nat) : Int) < 1
      ·
       refine WO.off rfl rfl (decide_eq_true g52) rfl ?_
       refine WO.off rfl rfl (decide_eq_true g52) rfl ?_
       refine WO.off rfl rfl (decide_eq_true g52) rfl ?_
       refine WO.off rfl rfl (decide_eq_true g52) rfl ?_
       refine WO.on rfl rfl (decide_eq_true g47) ?_
       refine WO.val (run_pickT rfl (decide_eq_true g52) rfl) rfl rfl rfl ?_
       refine WO.val (run_pickT rfl (decide_eq_true g47) rfl) rfl rfl rfl ?_
       refine WO.asg rfl rfl ?_
       refine WO.nil (NX.go ?_)
       refine WP.condT rfl rfl ?_
       refine WP.seq (WP.region rfl ?_)
       refine WO.asg rfl rfl ?_
       refine WO.nil (NX.go (WP.ret (NX.blkRet (NX.thenRet ?_))))
       refine NX.done (l := [.tmp 2]) rfl rfl ?_
       refine ⟨congrArg (Value.int .i64) ?_, hS1.drop.drop.drop.drop⟩
       clear hS1
       unfold rcheck
       repeat split
       all_goals first | rfl | omega
      ·
       refine WO.on rfl rfl (decide_eq_false g52) ?_
       refine WO.val (run_fieldAddr (q := ⟨g2, 1, none⟩) (show fieldB Tryz.prog 33 1 = some 1 from by kernel_rfl) rfl rfl) rfl rfl rfl ?_
       refine WO.on rfl rfl (decide_eq_false g52) ?_
       refine WO.val (run_load Ty.ag31 rfl ((hS1.cel_at 0 rfl 1).trans rfl)) rfl rfl rfl ?_
       refine WO.on rfl rfl (decide_eq_false g52) ?_
       refine WO.val (run_len rfl Tryz.underlying31 rfl) rfl rfl rfl ?_
       refine WO.on rfl rfl (decide_eq_false g52) ?_
       refine WO.val (run_gtr rfl rfl) rfl rfl rfl ?_
       refine WO.on rfl rfl (decide_eq_true g47) ?_
       refine WO.val (run_pickF rfl (decide_eq_false g52) rfl) rfl rfl rfl ?_
       refine WO.val (run_pickT rfl (decide_eq_true g47) rfl) rfl rfl rfl ?_
       refine WO.asg rfl rfl ?_
       refine WO.nil (NX.go ?_)
       refine WP.condP rfl (fun g45 => ?_) (fun g45 => ?_)
       ·
        refine WP.seq (WP.region rfl ?_)
        refine WO.asg rfl rfl ?_
        refine WO.nil (NX.go (WP.ret (NX.blkRet (NX.thenRet ?_))))
        refine NX.done (l := [.tmp 2]) rfl rfl ?_
        refine ⟨congrArg (Value.int .i64) ?_, hS1.drop.drop.drop.drop⟩
        clear hS1
        unfold rcheck
        repeat split
        all_goals first | rfl | omega
       ·
        refine WP.skip (NX.blk ?_)
        exact K3 () _ _ ⟨by omega, hS1⟩ (Sub.cons rfl (Sub.nil _))
     ·
      refine WO.off rfl rfl (decide_eq_false g47) rfl ?_
      refine WO.off rfl rfl (decide_eq_false g47) rfl ?_
      refine WO.off rfl rfl (decide_eq_false g47) rfl ?_
      refine WO.off rfl rfl (decide_eq_false g47) rfl ?_
      refine WO.off rfl rfl (decide_eq_false g47) rfl ?_
      refine WO.offU rfl rfl rfl ?_
      refine WO.offU rfl rfl rfl ?_
      refine WO.offU rfl rfl rfl ?_
      refine WO.offU rfl rfl rfl ?_
      refine WO.off rfl rfl (decide_eq_false g47) rfl ?_
      refine WO.val (run_pickF rfl (decide_eq_false g47) rfl) rfl rfl rfl ?_
      refine WO.asg rfl rfl ?_
      refine WO.nil (NX.go ?_)
      refine WP.condF rfl rfl ?_
      refine WP.skip (NX.blk ?_)
      exact K3 () _ _ ⟨by omega, hS1⟩ (Sub.cons rfl (Sub.nil _))
end Go.Proofs.YtidoidoelgfnaaaGreatDoor.SL

/- What is wrong with blocks: the reference. -/
namespace Go.Proofs.YtidoidoelgfnaaaGreatDoor.SL
open Go.RowKit Go.Proofs.YtidoidoelgfnaaaGreatDoor
open Go.Proofs.YtidoidoelgfnaaaGreatDoorW.PrintLast (rtab opsOf)
set_option linter.unusedVariables false
set_option linter.unusedSimpArgs false

def cmpV : Option MRow → MRow → Bool
  | none, _ => false
  | some q, u => decide (0 ≤ cmpF q.lb.l u.lb.l)
def tmV : Option Pt → Pt → Bool
  | none, _ => false
  | some q, p => decide (p.t ≤ q.t)
def ptsOk (last : Int) : Option Pt → List Pt → Bool
  | _, [] => true
  | pv, p :: l => !(decide (last < p.t) || tmV pv p) && ptsOk last (some p) l
def rowsGo : Option MRow → List MRow → Int
  | _, [] => 0
  | pv, r :: l => if chk r.lb.l = false then 16 else if cmpV pv r = true then 9 else if ptsOk r.last none r.pt.l = false then 9 else rowsGo (some r) l
def delsOk (l : List Rcd) : Bool := l.all fun r => decide (r.k = 2 ∧ rcheck r = 0)
def checkB (b : BlkV) : Int := if b.first < 1 ∨ 99999999 < b.to ∨ b.to < b.first then 2 else if ¬ rowsGo none b.rs.l = 0 then rowsGo none b.rs.l else if delsOk b.ds.l = true then 0 else 5
theorem rowsGo_chk : ∀ {l : List MRow} {pv : Option MRow}, rowsGo pv l = 0 → ∀ r ∈ l, chk r.lb.l = true
  | [], _, _, r, hr => by cases hr
  | u :: l, pv, h, r, hr => by
    rw [rowsGo] at h
    split at h
    · omega
    · rename_i hc
      split at h
      · omega
      · split at h
        · omega
        · rcases List.mem_cons.1 hr with e | hr
          · rw [e]; cases hq : chk u.lb.l with
            | true => rfl
            | false => exact absurd hq hc
          · exact rowsGo_chk h r hr
theorem checkB_chk {b : BlkV} (h : checkB b = 0) : ∀ r ∈ b.rs.l, chk r.lb.l = true := by
  unfold checkB at h
  split at h
  · omega
  · split at h
    · rename_i h1; exact absurd h h1
    · rename_i h1; exact rowsGo_chk (by simpa using h1)
theorem rowsGo_bad {pv : Option MRow} {u : MRow} {l : List MRow} (h : chk u.lb.l = false) : rowsGo pv (u :: l) = 16 := by rw [rowsGo, if_pos h]
theorem rowsGo_cmp {pv : Option MRow} {u : MRow} {l : List MRow} (h : chk u.lb.l = true) (h2 : cmpV pv u = true) : rowsGo pv (u :: l) = 9 := by rw [rowsGo, if_neg (by rw [h]; decide), if_pos h2]
theorem rowsGo_pts {pv : Option MRow} {u : MRow} {l : List MRow} (h : chk u.lb.l = true) (h2 : cmpV pv u = false) (h3 : ptsOk u.last none u.pt.l = false) : rowsGo pv (u :: l) = 9 := by rw [rowsGo, if_neg (by rw [h]; decide), if_neg (by rw [h2]; decide), if_pos h3]
theorem rowsGo_go {pv : Option MRow} {u : MRow} {l : List MRow} (h : chk u.lb.l = true) (h2 : cmpV pv u = false) (h3 : ptsOk u.last none u.pt.l = true) : rowsGo pv (u :: l) = rowsGo (some u) l := by rw [rowsGo, if_neg (by rw [h]; decide), if_neg (by rw [h2]; decide), if_neg (by rw [h3]; decide)]
theorem checkB_rows {b : BlkV} (h : ¬ (b.first < 1 ∨ 99999999 < b.to ∨ b.to < b.first)) {e : Int} (he : ¬ e = 0) (h2 : rowsGo none b.rs.l = e) : checkB b = e := by unfold checkB; rw [if_neg h, h2, if_pos he]
theorem checkB_dels {b : BlkV} (h : ¬ (b.first < 1 ∨ 99999999 < b.to ∨ b.to < b.first)) (h2 : rowsGo none b.rs.l = 0) : checkB b = if delsOk b.ds.l = true then 0 else 5 := by unfold checkB; rw [if_neg h, if_neg (by simp [h2])]
theorem r15chk_spec_t9 : rtab .any (opsOf Tryz.f47 9) = (true, [([], []), ([0], [0]), ([1], [1]), ([2], [2]), ([3, 2], [2, 3]), ([2], [2]), ([5, 2], [2, 5]), ([4, 6, 2], [2, 4, 6]), ([7, 2], [2, 7]), ([8, 2], [2, 8]), ([2], [2]), ([10, 2], [2, 10]), ([9, 11, 2, 2], [2, 9, 11]), ([12, 2], [2, 12]), ([2, 13], [2, 13])]) := by kernel_rfl
theorem r15chk_spec_t14 : rtab .any (opsOf Tryz.f47 14) = (true, [([], []), ([0], [0]), ([], []), ([1, 2], [1, 2]), ([3], [3]), ([4], [4]), ([], []), ([6], [6]), ([5, 7], [5, 7]), ([8], [8]), ([9], [9]), ([10, 9], [9, 10]), ([11, 9, 9], [9, 11]), ([12], [12]), ([13, 12], [12, 13]), ([12], [12]), ([14, 15, 12], [12, 14, 15]), ([16, 12], [12, 16]), ([17, 12], [12, 17]), ([12], [12]), ([19, 12], [12, 19]), ([12], [12]), ([21, 12], [12, 21]), ([20, 22, 12], [12, 20, 22]), ([23, 12], [12, 23]), ([24, 12], [12, 24]), ([18, 25, 12], [12, 18, 25]), ([12, 26, 9], [9, 12, 26]), ([9, 27], [9, 27])]) := by kernel_rfl
theorem r15chk_spec {B w : World} {L : List HP} (b1 : BlkV) (hz : MzB b1) (hS : St B (blA b1 :: L) w) : Does Tryz.prog 47 [Value.agg #[Value.int .i64 b1.first, Value.int .i64 b1.to, Value.slice b1.rs.a b1.rs.l.length b1.rs.cap, Value.slice b1.ds.a b1.ds.l.length b1.ds.cap]] w (fun v w1 => v = .int .i64 (checkB b1) ∧ St B (blA b1 :: L) w1) := by
 replace hS := blA_open hS
 have hnr := hz.nr
 have hnd := hz.nd
 refine enter (n := 112) Tryz.func47 rfl rfl [Value.agg #[Value.int .i64 b1.first, Value.int .i64 b1.to, Value.slice b1.rs.a b1.rs.l.length b1.rs.cap, Value.slice b1.ds.a b1.ds.l.length b1.ds.cap]] rfl ?_
 refine WP.seq (WP.region rfl ?_)
 refine WO.box (l := [Value.int .i64 b1.first, Value.int .i64 b1.to, Value.slice b1.rs.a b1.rs.l.length b1.rs.cap, Value.slice b1.ds.a b1.ds.l.length b1.ds.cap]) hS rfl rfl rfl (fun g2 w1 lg2 hS1 => ?_)
 clear hS
 refine WO.asg rfl rfl ?_
 refine WO.nil (NX.go (WP.seq (WP.seq (WP.region rfl ?_))))
 refine WO.val (run_fieldAddr (q := ⟨g2, 0, none⟩) (show fieldB Tryz.prog 51 0 = some 0 from by kernel_rfl) rfl rfl) rfl rfl rfl ?_
 refine WO.val (run_load Ty.ag3 rfl ((hS1.cel_at 0 rfl 0).trans rfl)) rfl rfl rfl ?_
 refine WO.val (run_lss rfl rfl) rfl rfl rfl ?_
 refine WO.mv rfl rfl ?_
 by_cases g10 : b1.first < 1
 ·
  refine WO.off rfl rfl (decide_eq_true g10) rfl ?_
  refine WO.off rfl rfl (decide_eq_true g10) rfl ?_
  refine WO.off rfl rfl (decide_eq_true g10) rfl ?_
  refine WO.val (run_pickT rfl (decide_eq_true g10) rfl) rfl rfl rfl ?_
  refine WO.mv rfl rfl ?_
  refine WO.off rfl rfl rfl rfl ?_
  refine WO.off rfl rfl rfl rfl ?_
  refine WO.off rfl rfl rfl rfl ?_
  refine WO.off rfl rfl rfl rfl ?_
  refine WO.off rfl rfl rfl rfl ?_
  refine WO.val (run_pickT rfl rfl rfl) rfl rfl rfl ?_
  refine WO.nil (NX.go ?_)
  refine WP.condT rfl rfl ?_
  refine WP.seq (WP.region rfl ?_)
  refine WO.asg rfl rfl ?_
  refine WO.nil (NX.go (WP.ret (NX.thenRet ?_)))
  refine NX.done (l := [.tmp 2]) rfl rfl ?_
  exact ⟨congrArg (Value.int .i64) (by unfold checkB; rw [if_pos (by omega)]), hS1.drop.drop.drop.drop.drop⟩
 ·
  refine WO.on rfl rfl (decide_eq_false g10) ?_
  refine WO.val (run_fieldAddr (q := ⟨g2, 1, none⟩) (show fieldB Tryz.prog 51 1 = some 1 from by kernel_rfl) rfl rfl) rfl rfl rfl ?_
  refine WO.on rfl rfl (decide_eq_false g10) ?_
  refine WO.val (run_load Ty.ag3 rfl ((hS1.cel_at 0 rfl 1).trans rfl)) rfl rfl rfl ?_
  refine WO.on rfl rfl (decide_eq_false g10) ?_
  refine WO.val (run_gtr rfl rfl) rfl rfl rfl ?_
  refine WO.val (run_pickF rfl (decide_eq_false g10) rfl) rfl rfl rfl ?_
  refine WO.mv rfl rfl ?_
  by_cases g15 : 99999999 < b1.to
  ·
   refine WO.off rfl rfl (decide_eq_true g15) rfl ?_
   refine WO.off rfl rfl (decide_eq_true g15) rfl ?_
   refine WO.off rfl rfl (decide_eq_true g15) rfl ?_
   refine WO.off rfl rfl (decide_eq_true g15) rfl ?_
   refine WO.off rfl rfl (decide_eq_true g15) rfl ?_
   refine WO.val (run_pickT rfl (decide_eq_true g15) rfl) rfl rfl rfl ?_
   refine WO.nil (NX.go ?_)
   refine WP.condT rfl rfl ?_
   refine WP.seq (WP.region rfl ?_)
   refine WO.asg rfl rfl ?_
   refine WO.nil (NX.go (WP.ret (NX.thenRet ?_)))
   refine NX.done (l := [.tmp 2]) rfl rfl ?_
   exact ⟨congrArg (Value.int .i64) (by unfold checkB; rw [if_pos (by omega)]), hS1.drop.drop.drop.drop.drop⟩
  ·
   refine WO.on rfl rfl (decide_eq_false g15) ?_
   refine WO.val (run_fieldAddr (q := ⟨g2, 0, none⟩) (show fieldB Tryz.prog 51 0 = some 0 from by kernel_rfl) rfl rfl) rfl rfl rfl ?_
   refine WO.on rfl rfl (decide_eq_false g15) ?_
   refine WO.val (run_load Ty.ag3 rfl ((hS1.cel_at 0 rfl 0).trans rfl)) rfl rfl rfl ?_
   refine WO.on rfl rfl (decide_eq_false g15) ?_
   refine WO.val (run_fieldAddr (q := ⟨g2, 1, none⟩) (show fieldB Tryz.prog 51 1 = some 1 from by kernel_rfl) rfl rfl) rfl rfl rfl ?_
   refine WO.on rfl rfl (decide_eq_false g15) ?_
   refine WO.val (run_load Ty.ag3 rfl ((hS1.cel_at 0 rfl 1).trans rfl)) rfl rfl rfl ?_
   refine WO.on rfl rfl (decide_eq_false g15) ?_
   refine WO.val (run_gtr rfl rfl) rfl rfl rfl ?_
   refine WO.val (run_pickF rfl (decide_eq_false g15) rfl) rfl rfl rfl ?_
   refine WO.nil (NX.go ?_)
   refine WP.condP rfl (fun g21 => ?_) (fun g21 => ?_)
   ·
    refine WP.seq (WP.region rfl ?_)
    refine WO.asg rfl rfl ?_
    refine WO.nil (NX.go (WP.ret (NX.thenRet ?_)))
    refine NX.done (l := [.tmp 2]) rfl rfl ?_
    exact ⟨congrArg (Value.int .i64) (by unfold checkB; rw [if_pos (by omega)]), hS1.drop.drop.drop.drop.drop⟩
   ·
    refine WP.skip (NX.go (WP.seq (WP.seq (WP.region rfl ?_))))
    refine WO.asg rfl rfl ?_
    refine WO.nil (NX.go (WP.block ?_))
    have hS3 : St B (cel g2 [Value.int .i64 b1.first, Value.int .i64 b1.to, Value.slice b1.rs.a b1.rs.l.length b1.rs.cap, Value.slice b1.ds.a b1.ds.l.length b1.ds.cap] 51 :: (rsA b1.rs) :: allA mrA b1.rs.l :: (dsA b1.ds) :: allA recA b1.ds.l :: blA b1 :: L) w1 := hS1
    clear hS1
    refine WP.loop (α := Nat × Option MRow) (fun x => match x with | ⟨i, pv⟩ => [(1, Value.pointer (some ⟨g2, 0, none⟩)), (2, Value.int .i64 0), (3, Value.int .i64 (i : Int))]) (fun x w => match x with | ⟨i, pv⟩ => (i ≤ b1.rs.l.length ∧ (i = 0 → pv = none) ∧ (∀ q, 0 < i → b1.rs.l[i - 1]? = some q → pv = some q) ∧ rowsGo pv (b1.rs.l.drop i) = rowsGo none b1.rs.l) ∧ St B (cel g2 [Value.int .i64 b1.first, Value.int .i64 b1.to, Value.slice b1.rs.a b1.rs.l.length b1.rs.cap, Value.slice b1.ds.a b1.ds.l.length b1.ds.cap] 51 :: (rsA b1.rs) :: allA mrA b1.rs.l :: (dsA b1.ds) :: allA recA b1.ds.l :: blA b1 :: L) w) (fun x => match x with | ⟨i, pv⟩ => b1.rs.l.length - i) (0, none) ⟨⟨Nat.zero_le _, fun _ => rfl, fun q h => absurd h (by omega), rfl⟩, hS3⟩ (Sub.cons rfl (Sub.cons rfl (Sub.consE rfl (by first | rfl | first | rfl | (congr 1; omega) | (simp; done) | (simp; omega)) (Sub.nil _)))) ?_
    rintro ⟨i, pv⟩ w4 ⟨⟨hi, hz0, hq, hgo⟩, hS4⟩
    clear hS3
    refine WP.seq (WP.seq (WP.region rfl ?_))
    refine WO.mv rfl rfl ?_
    refine WO.val (run_fieldAddr (q := ⟨g2, 2, none⟩) (show fieldB Tryz.prog 51 2 = some 2 from by kernel_rfl) rfl rfl) rfl rfl rfl ?_
    refine WO.val (run_load Ty.ag49 rfl ((hS4.cel_at 0 rfl 2).trans rfl)) rfl rfl rfl ?_
    refine WO.val (run_len rfl Tryz.underlying49 rfl) rfl rfl rfl ?_
    refine WO.val (run_lss rfl rfl) rfl rfl rfl ?_
    refine WO.nil (NX.go ?_)
    refine WP.condP rfl (fun g26 => ?_) (fun g26 => ?_)
    ·
     refine WP.skip (NX.go (WP.seq (WP.block (WP.seq ?_))))
     obtain ⟨u, hu⟩ : ∃ qq, b1.rs.l[i]? = some qq := ⟨_, List.getElem?_eq_getElem (by omega)⟩
     have hS5 := mrA_get (List.mem_of_getElem? hu) (hS4.permT [2, 0, 0] (L' := allA mrA b1.rs.l :: cel g2 [Value.int .i64 b1.first, Value.int .i64 b1.to, Value.slice b1.rs.a b1.rs.l.length b1.rs.cap, Value.slice b1.ds.a b1.ds.l.length b1.ds.cap] 51 :: (rsA b1.rs) :: (dsA b1.ds) :: allA recA b1.ds.l :: blA b1 :: L) rfl)
     clear hS4
     have hzu := hz.r u (List.mem_of_getElem? hu)
     have hqe : 0 < i → ∃ q, b1.rs.l[i - 1]? = some q := fun h => ⟨_, List.getElem?_eq_getElem (by omega)⟩
     refine WP.region rfl ?_
     refine WO.val (run_fieldAddr (q := ⟨g2, 2, none⟩) (show fieldB Tryz.prog 51 2 = some 2 from by kernel_rfl) rfl rfl) rfl rfl rfl ?_
     refine WO.val (run_load Ty.ag49 rfl ((hS5.cel_at 3 rfl 2).trans rfl)) rfl rfl rfl ?_
     refine WO.mv rfl rfl ?_
     refine WO.val (run_indexAddr (q := adr b1.rs.a (i * 3)) Tryz.underlying49 Ty.sz99 rfl rfl (by omega) (by omega) ((rdH_rd (hS5.focus 4 rfl)).2.1 (by omega)) rfl) rfl rfl rfl ?_
     refine WO.val (run_loadAgg (vs := [Value.slice u.lb.a u.lb.l.length u.lb.cap, Value.int .i64 u.last, Value.slice u.pt.a u.pt.l.length u.pt.cap]) Ty.ag99 Ty.sz99 rfl ((rdH_rd (hS5.focus 4 rfl)).cells (by rw [flat_len mrc_len]; omega) (flat_part mrc_len hu)).1 ((rdH_rd (hS5.focus 4 rfl)).cells (by rw [flat_len mrc_len]; omega) (flat_part mrc_len hu)).2) rfl rfl rfl ?_
     refine WO.alloc (l := [Value.slice none 0 0, Value.int .i64 0, Value.slice none 0 0]) hS5 Ty.zr99 rfl rfl (fun g7 w6 lg7 hS6 => ?_)
     clear hS5
     refine WO.store (l' := [Value.slice u.lb.a u.lb.l.length u.lb.cap, Value.int .i64 u.last, Value.slice u.pt.a u.pt.l.length u.pt.cap]) 0 hS6 rfl Ty.sz99 rfl rfl rfl rfl rfl (Nat.le_of_ble_eq_true rfl) rfl (fun w8 (hS8 : St B (cel g7 [Value.slice u.lb.a u.lb.l.length u.lb.cap, Value.int .i64 u.last, Value.slice u.pt.a u.pt.l.length u.pt.cap] 99 :: (labA u.lb) :: (ptsA u.pt) :: allA mrA b1.rs.l :: cel g2 [Value.int .i64 b1.first, Value.int .i64 b1.to, Value.slice b1.rs.a b1.rs.l.length b1.rs.cap, Value.slice b1.ds.a b1.ds.l.length b1.ds.cap] 51 :: (rsA b1.rs) :: (dsA b1.ds) :: allA recA b1.ds.l :: blA b1 :: L) w8) => ?_)
     clear hS6
     refine WO.nil (NX.go (WP.seq (WP.seq (WP.region rfl ?_))))
     refine WO.val (run_fieldAddr (q := ⟨g7, 0, none⟩) (show fieldB Tryz.prog 99 0 = some 0 from by kernel_rfl) rfl rfl) rfl rfl rfl ?_
     refine WO.val (run_load Ty.ag65 rfl ((hS8.cel_at 0 rfl 0).trans rfl)) rfl rfl rfl ?_
     have hS9 := hS8.permT [1, 0, 0, 0, 0, 0] (L' := (labA u.lb) :: cel g7 [Value.slice u.lb.a u.lb.l.length u.lb.cap, Value.int .i64 u.last, Value.slice u.pt.a u.pt.l.length u.pt.cap] 99 :: (ptsA u.pt) :: allA mrA b1.rs.l :: cel g2 [Value.int .i64 b1.first, Value.int .i64 b1.to, Value.slice b1.rs.a b1.rs.l.length b1.rs.cap, Value.slice b1.ds.a b1.ds.l.length b1.ds.cap] 51 :: (rsA b1.rs) :: (dsA b1.ds) :: allA recA b1.ds.l :: blA b1 :: L) rfl
     clear hS8
     refine WO.call rfl rfl Ty.hd49 rfl (rchk10_spec rdH_rd hzu.2.2 hzu.1 hS9) (fun v11 w10 pv11 => ?_)
     obtain ⟨rfl, hS10⟩ := pv11
     clear hS9
     refine WO.val (run_neq rfl rfl) rfl rfl rfl ?_
     refine WO.nil (NX.go ?_)
     refine WP.condP rfl (fun g37 => ?_) (fun g37 => ?_)
     ·
      have hck : chk u.lb.l = false := by cases hx : chk u.lb.l with | false => rfl | true => (rw [hx] at g37; exact absurd rfl g37)
      refine WP.seq (WP.region rfl ?_)
      refine WO.asg rfl rfl ?_
      refine WO.nil (NX.go (WP.ret (NX.thenRet (NX.blkRet (NX.thenRet (NX.thenRet (NX.blkRet (NX.thenRet ?_))))))))
      refine NX.done (l := [.tmp 2]) rfl rfl ?_
      have hnb : ¬ (b1.first < 1 ∨ 99999999 < b1.to ∨ b1.to < b1.first) := by omega
      exact ⟨congrArg (Value.int .i64) (checkB_rows hnb (by decide) (by rw [← hgo, drop_cons hu, rowsGo_bad hck])).symm, hS10.drop.drop.drop.drop.drop.drop.drop.drop⟩
     ·
      have hck : chk u.lb.l = true := by cases hx : chk u.lb.l with | true => rfl | false => (rw [hx] at g37; exact absurd (by decide) g37)
      refine WP.skip (NX.go (WP.seq (WP.seq ?_)))
      have hsa : b1.rs.a.isSome = true := rd_isSome ((rdH_rd (hS10.focus 5 rfl))) (by omega)
      refine WD.start (fun w => Rd w u.lb.a u.lb.l.length 2 (u.lb.l.flatMap prc) ∧ (∀ jz, World.cell? w ⟨g7, jz, none⟩ = [Value.slice u.lb.a u.lb.l.length u.lb.cap, Value.int .i64 u.last, Value.slice u.pt.a u.pt.l.length u.pt.cap][jz]?) ∧ Rd w u.pt.a u.pt.l.length 2 (u.pt.l.flatMap ptc) ∧ (∀ jz, World.cell? w ⟨g2, jz, none⟩ = [Value.int .i64 b1.first, Value.int .i64 b1.to, Value.slice b1.rs.a b1.rs.l.length b1.rs.cap, Value.slice b1.ds.a b1.ds.l.length b1.ds.cap][jz]?) ∧ Rd w b1.rs.a b1.rs.l.length 3 (b1.rs.l.flatMap mrc)) [] (bt 15 0) Ty.mo rfl (by kernel_rfl) hS10 (fun _ h => ⟨(rdH_rd (h.focus 0 rfl)), h.cel_at 1 rfl, (rdH_rd (h.focus 2 rfl)), h.cel_at 4 rfl, (rdH_rd (h.focus 5 rfl))⟩) (fun w12 hS12 s13 => ?_)
      clear hS10
      refine WD.pure (i := 0) r15chk_spec_t9 (bt 15 1) rfl rfl rfl (by kernel_rfl) (PQ.then (PQ.then (PQ.blk (PQ.then (PQ.then (PQ.blk (PQ.then PQ.body))))))) rfl (fun w => run_move rfl) ?_
      refine WD.pure (i := 1) r15chk_spec_t9 (bt 15 3) rfl rfl rfl (by kernel_rfl) (PQ.then (PQ.then (PQ.blk (PQ.then (PQ.then (PQ.blk (PQ.then PQ.body))))))) rfl (fun w => run_gtr rfl rfl) ?_
      refine WD.pure (i := 2) r15chk_spec_t9 (bt 15 7) rfl rfl rfl (by kernel_rfl) (PQ.then (PQ.then (PQ.blk (PQ.then (PQ.then (PQ.blk (PQ.then PQ.body))))))) rfl (fun w => run_move rfl) ?_
      by_cases g40 : 0 < (i : Int)
      ·
       obtain ⟨q, hq1⟩ := hqe (by omega)
       have hS14 := mrA_get (List.mem_of_getElem? hq1) (hS12.permT [3, 0, 0, 0, 0, 0] (L' := allA mrA b1.rs.l :: (labA u.lb) :: cel g7 [Value.slice u.lb.a u.lb.l.length u.lb.cap, Value.int .i64 u.last, Value.slice u.pt.a u.pt.l.length u.pt.cap] 99 :: (ptsA u.pt) :: cel g2 [Value.int .i64 b1.first, Value.int .i64 b1.to, Value.slice b1.rs.a b1.rs.l.length b1.rs.cap, Value.slice b1.ds.a b1.ds.l.length b1.ds.cap] 51 :: (rsA b1.rs) :: (dsA b1.ds) :: allA recA b1.ds.l :: blA b1 :: L) rfl)
       clear hS12
       refine WD.pureOn (i := 3) r15chk_spec_t9 (bt 15 15) rfl rfl rfl (decide_eq_true g40) (by kernel_rfl) (PQ.then (PQ.then (PQ.blk (PQ.then (PQ.then (PQ.blk (PQ.then PQ.body))))))) rfl (fun w => run_fieldAddr (q := ⟨g2, 2, none⟩) (show fieldB Tryz.prog 51 2 = some 2 from by kernel_rfl) rfl rfl) ?_
       refine WD.takeOn (i := 4) r15chk_spec_t9 (bt 15 31) s13 rfl rfl rfl (decide_eq_true g40) (by kernel_rfl) (PQ.then (PQ.then (PQ.blk (PQ.then (PQ.then (PQ.blk (PQ.then PQ.body))))))) rfl (fun w hs => run_load Ty.ag49 rfl ((hs.2.2.2.1 2).trans rfl)) ?_
       refine WD.pureOn (i := 5) r15chk_spec_t9 (bt 15 63) rfl rfl rfl (decide_eq_true g40) (by kernel_rfl) (PQ.then (PQ.then (PQ.blk (PQ.then (PQ.then (PQ.blk (PQ.then PQ.body))))))) rfl (fun w => run_move rfl) ?_
       refine WD.pureOn (i := 6) r15chk_spec_t9 (bt 15 127) rfl rfl rfl (decide_eq_true g40) (by kernel_rfl) (PQ.then (PQ.then (PQ.blk (PQ.then (PQ.then (PQ.blk (PQ.then PQ.body))))))) rfl (fun w => run_sub rfl rfl (IntWalk.i64_in _ (by omega))) ?_
       refine WD.takeOn (i := 7) r15chk_spec_t9 (bt 15 255) s13 rfl rfl rfl (decide_eq_true g40) (by kernel_rfl) (PQ.then (PQ.then (PQ.blk (PQ.then (PQ.then (PQ.blk (PQ.then PQ.body))))))) rfl (fun w hs => run_indexAddr (q := adr b1.rs.a ((i - 1) * 3)) Tryz.underlying49 Ty.sz99 rfl rfl (by omega) (by omega) ((hs.2.2.2.2).2.1 (by omega)) (by rw [show ((i : Int) - 1).toNat = i - 1 by omega])) ?_
       refine WD.pureOn (i := 8) r15chk_spec_t9 (bt 15 511) rfl rfl rfl (decide_eq_true g40) (by kernel_rfl) (PQ.then (PQ.then (PQ.blk (PQ.then (PQ.then (PQ.blk (PQ.then PQ.body))))))) rfl (fun w => run_fieldAddr (q := (adr b1.rs.a ((i - 1) * 3 + 0))) (show fieldB Tryz.prog 99 0 = some 0 from by kernel_rfl) rfl (adr_add _ (by assumption) _ _)) ?_
       refine WD.takeOn (i := 9) r15chk_spec_t9 (bt 15 1023) s13 rfl rfl rfl (decide_eq_true g40) (by kernel_rfl) (PQ.then (PQ.then (PQ.blk (PQ.then (PQ.then (PQ.blk (PQ.then PQ.body))))))) rfl (fun w hs => run_load Ty.ag65 rfl ((hs.2.2.2.2).cell ((flat_get mrc_len hq1 (j := 0) (by decide)).trans rfl))) ?_
       refine WD.pureOn (i := 10) r15chk_spec_t9 (bt 15 2047) rfl rfl rfl (decide_eq_true g40) (by kernel_rfl) (PQ.then (PQ.then (PQ.blk (PQ.then (PQ.then (PQ.blk (PQ.then PQ.body))))))) rfl (fun w => run_fieldAddr (q := ⟨g7, 0, none⟩) (show fieldB Tryz.prog 99 0 = some 0 from by kernel_rfl) rfl rfl) ?_
       refine WD.takeOn (i := 11) r15chk_spec_t9 (bt 15 4095) s13 rfl rfl rfl (decide_eq_true g40) (by kernel_rfl) (PQ.then (PQ.then (PQ.blk (PQ.then (PQ.then (PQ.blk (PQ.then PQ.body))))))) rfl (fun w hs => run_load Ty.ag65 rfl ((hs.2.1 0).trans rfl)) ?_
       refine WD.one (i := 12) r15chk_spec_t9 (bt 15 8191) rfl (by kernel_rfl) ?_
       refine WO.on rfl rfl (decide_eq_true g40) ?_
       have hS15 := hS14.permT [0, 2, 0, 0, 0, 0, 0, 0] (L' := (labA q.lb) :: (labA u.lb) :: (ptsA q.pt) :: allA mrA b1.rs.l :: cel g7 [Value.slice u.lb.a u.lb.l.length u.lb.cap, Value.int .i64 u.last, Value.slice u.pt.a u.pt.l.length u.pt.cap] 99 :: (ptsA u.pt) :: cel g2 [Value.int .i64 b1.first, Value.int .i64 b1.to, Value.slice b1.rs.a b1.rs.l.length b1.rs.cap, Value.slice b1.ds.a b1.ds.l.length b1.ds.cap] 51 :: (rsA b1.rs) :: (dsA b1.ds) :: allA recA b1.ds.l :: blA b1 :: L) rfl
       clear hS14
       refine WO.call rfl rfl Ty.hd82 rfl (rcmp_spec rdH_rd rdH_rd (hz.r q (List.mem_of_getElem? hq1)).1 hzu.1 hS15) (fun v17 w16 pv17 => ?_)
       obtain ⟨rfl, hS16⟩ := pv17
       clear hS15
       refine WO.nil ?_
       have s18 : Rd w16 u.lb.a u.lb.l.length 2 (u.lb.l.flatMap prc) ∧ (∀ jz, World.cell? w16 ⟨g7, jz, none⟩ = [Value.slice u.lb.a u.lb.l.length u.lb.cap, Value.int .i64 u.last, Value.slice u.pt.a u.pt.l.length u.pt.cap][jz]?) ∧ Rd w16 u.pt.a u.pt.l.length 2 (u.pt.l.flatMap ptc) ∧ (∀ jz, World.cell? w16 ⟨g2, jz, none⟩ = [Value.int .i64 b1.first, Value.int .i64 b1.to, Value.slice b1.rs.a b1.rs.l.length b1.rs.cap, Value.slice b1.ds.a b1.ds.l.length b1.ds.cap][jz]?) ∧ Rd w16 b1.rs.a b1.rs.l.length 3 (b1.rs.l.flatMap mrc) := ⟨(rdH_rd (hS16.focus 1 rfl)), hS16.cel_at 4 rfl, (rdH_rd (hS16.focus 5 rfl)), hS16.cel_at 6 rfl, (rdH_rd (hS16.focus 7 rfl))⟩
       refine NX.held s18 ?_
       refine WD.pureOn (i := 13) r15chk_spec_t9 (bt 15 16383) rfl rfl rfl (decide_eq_true g40) (by kernel_rfl) (PQ.then (PQ.then (PQ.blk (PQ.then (PQ.then (PQ.blk (PQ.then PQ.body))))))) rfl (fun w => run_geq rfl rfl) ?_
       refine WD.pure (i := 14) r15chk_spec_t9 (bt 15 32767) rfl rfl rfl (by kernel_rfl) (PQ.then (PQ.then (PQ.blk (PQ.then (PQ.then (PQ.blk (PQ.then PQ.body))))))) rfl (fun w => run_pickT rfl (decide_eq_true g40) rfl) ?_
       refine WD.done r15chk_spec_t9 (by kernel_rfl) ?_
       refine NX.go ?_
       refine WP.condP rfl (fun g52 => ?_) (fun g52 => ?_)
       ·
        refine WP.seq (WP.region rfl ?_)
        refine WO.asg rfl rfl ?_
        refine WO.nil (NX.go (WP.ret (NX.thenRet (NX.blkRet (NX.thenRet (NX.thenRet (NX.blkRet (NX.thenRet ?_))))))))
        refine NX.done (l := [.tmp 2]) rfl rfl ?_
        have hnb : ¬ (b1.first < 1 ∨ 99999999 < b1.to ∨ b1.to < b1.first) := by omega
        exact ⟨congrArg (Value.int .i64) (checkB_rows hnb (by decide) (by rw [← hgo, drop_cons hu, rowsGo_cmp hck (by rw [hq q (by omega) hq1]; exact decide_eq_true g52)])).symm, hS16.drop.drop.drop.drop.drop.drop.drop.drop.drop.drop⟩
       ·
        refine WP.skip (NX.go (WP.seq ?_))
        have hcm : cmpV pv u = false := by rw [hq q (by omega) hq1]; exact decide_eq_false g52
        refine WP.region rfl ?_
        refine WO.asg rfl rfl ?_
        refine WO.nil (NX.go (WP.block ?_))
        refine WP.loop (α := Nat × Option Pt) (fun x => match x with | ⟨k, pp⟩ => [(1, Value.pointer (some ⟨g2, 0, none⟩)), (2, Value.int .i64 0), (3, Value.int .i64 (i : Int)), (4, Value.pointer (some ⟨g7, 0, none⟩)), (5, Value.int .i64 (k : Int))]) (fun x w => match x with | ⟨k, pp⟩ => (k ≤ u.pt.l.length ∧ (k = 0 → pp = none) ∧ (∀ q, 0 < k → u.pt.l[k - 1]? = some q → pp = some q) ∧ ptsOk u.last pp (u.pt.l.drop k) = ptsOk u.last none u.pt.l) ∧ St B (cel g7 [Value.slice u.lb.a u.lb.l.length u.lb.cap, Value.int .i64 u.last, Value.slice u.pt.a u.pt.l.length u.pt.cap] 99 :: (ptsA u.pt) :: cel g2 [Value.int .i64 b1.first, Value.int .i64 b1.to, Value.slice b1.rs.a b1.rs.l.length b1.rs.cap, Value.slice b1.ds.a b1.ds.l.length b1.ds.cap] 51 :: (rsA b1.rs) :: allA mrA b1.rs.l :: (dsA b1.ds) :: allA recA b1.ds.l :: blA b1 :: L) w) (fun x => match x with | ⟨k, pp⟩ => u.pt.l.length - k) (0, none) ⟨⟨Nat.zero_le _, fun _ => rfl, fun q h => absurd h (by omega), rfl⟩, (hS16.permT [0, 0, 0, 1, 1, 1, 1, 0] (L' := (labA q.lb) :: (labA u.lb) :: (ptsA q.pt) :: cel g7 [Value.slice u.lb.a u.lb.l.length u.lb.cap, Value.int .i64 u.last, Value.slice u.pt.a u.pt.l.length u.pt.cap] 99 :: (ptsA u.pt) :: cel g2 [Value.int .i64 b1.first, Value.int .i64 b1.to, Value.slice b1.rs.a b1.rs.l.length b1.rs.cap, Value.slice b1.ds.a b1.ds.l.length b1.ds.cap] 51 :: (rsA b1.rs) :: allA mrA b1.rs.l :: (dsA b1.ds) :: allA recA b1.ds.l :: blA b1 :: L) rfl).drop.drop.drop⟩ (Sub.cons rfl (Sub.cons rfl (Sub.cons rfl (Sub.cons rfl (Sub.consE rfl (by first | rfl | first | rfl | (congr 1; omega) | (simp; done) | (simp; omega)) (Sub.nil _)))))) ?_
        rintro ⟨k, pp⟩ w19 ⟨⟨hk, hpz, hpq, hpgo⟩, hS19⟩
        clear hS16
        refine WP.seq (WP.seq (WP.region rfl ?_))
        refine WO.mv rfl rfl ?_
        refine WO.val (run_fieldAddr (q := ⟨g7, 2, none⟩) (show fieldB Tryz.prog 99 2 = some 2 from by kernel_rfl) rfl rfl) rfl rfl rfl ?_
        refine WO.val (run_load Ty.ag66 rfl ((hS19.cel_at 0 rfl 2).trans rfl)) rfl rfl rfl ?_
        refine WO.val (run_len rfl Tryz.underlying66 rfl) rfl rfl rfl ?_
        refine WO.val (run_lss rfl rfl) rfl rfl rfl ?_
        refine WO.nil (NX.go ?_)
        refine WP.condP rfl (fun g57 => ?_) (fun g57 => ?_)
        ·
         refine WP.skip (NX.go (WP.seq (WP.block (WP.seq ?_))))
         obtain ⟨p, hp⟩ : ∃ qq, u.pt.l[k]? = some qq := ⟨_, List.getElem?_eq_getElem (by omega)⟩
         have hsp : u.pt.a.isSome = true := rd_isSome ((rdH_rd (hS19.focus 1 rfl))) (by omega)
         have hpe : 0 < k → ∃ q, u.pt.l[k - 1]? = some q := fun h => ⟨_, List.getElem?_eq_getElem (by omega)⟩
         refine WD.start (fun w => (∀ jz, World.cell? w ⟨g7, jz, none⟩ = [Value.slice u.lb.a u.lb.l.length u.lb.cap, Value.int .i64 u.last, Value.slice u.pt.a u.pt.l.length u.pt.cap][jz]?) ∧ Rd w u.pt.a u.pt.l.length 2 (u.pt.l.flatMap ptc) ∧ (∀ jz, World.cell? w ⟨g2, jz, none⟩ = [Value.int .i64 b1.first, Value.int .i64 b1.to, Value.slice b1.rs.a b1.rs.l.length b1.rs.cap, Value.slice b1.ds.a b1.ds.l.length b1.ds.cap][jz]?) ∧ Rd w b1.rs.a b1.rs.l.length 3 (b1.rs.l.flatMap mrc)) [] (bt 29 0) Ty.mo rfl (by kernel_rfl) hS19 (fun _ h => ⟨h.cel_at 0 rfl, (rdH_rd (h.focus 1 rfl)), h.cel_at 2 rfl, (rdH_rd (h.focus 3 rfl))⟩) (fun w20 hS20 s21 => ?_)
         clear hS19
         refine WD.pure (i := 0) r15chk_spec_t14 (bt 29 1) rfl rfl rfl (by kernel_rfl) (PQ.then (PQ.blk (PQ.then (PQ.then (PQ.blk (PQ.blk (PQ.then (PQ.then (PQ.blk (PQ.then PQ.body)))))))))) rfl (fun w => run_fieldAddr (q := ⟨g7, 2, none⟩) (show fieldB Tryz.prog 99 2 = some 2 from by kernel_rfl) rfl rfl) ?_
         refine WD.take (i := 1) r15chk_spec_t14 (bt 29 3) s21 rfl rfl rfl (by kernel_rfl) (PQ.then (PQ.blk (PQ.then (PQ.then (PQ.blk (PQ.blk (PQ.then (PQ.then (PQ.blk (PQ.then PQ.body)))))))))) rfl (fun w hs => run_load Ty.ag66 rfl ((hs.1 2).trans rfl)) ?_
         refine WD.pure (i := 2) r15chk_spec_t14 (bt 29 7) rfl rfl rfl (by kernel_rfl) (PQ.then (PQ.blk (PQ.then (PQ.then (PQ.blk (PQ.blk (PQ.then (PQ.then (PQ.blk (PQ.then PQ.body)))))))))) rfl (fun w => run_move rfl) ?_
         refine WD.take (i := 3) r15chk_spec_t14 (bt 29 15) s21 rfl rfl rfl (by kernel_rfl) (PQ.then (PQ.blk (PQ.then (PQ.then (PQ.blk (PQ.blk (PQ.then (PQ.then (PQ.blk (PQ.then PQ.body)))))))))) rfl (fun w hs => run_indexAddr (q := adr u.pt.a (k * 2)) Tryz.underlying66 Ty.sz103 rfl rfl (by omega) (by omega) ((hs.2.1).2.1 (by omega)) rfl) ?_
         refine WD.pure (i := 4) r15chk_spec_t14 (bt 29 31) rfl rfl rfl (by kernel_rfl) (PQ.then (PQ.blk (PQ.then (PQ.then (PQ.blk (PQ.blk (PQ.then (PQ.then (PQ.blk (PQ.then PQ.body)))))))))) rfl (fun w => run_fieldAddr (q := (adr u.pt.a (k * 2 + 0))) (show fieldB Tryz.prog 103 0 = some 0 from by kernel_rfl) rfl (adr_add _ (by assumption) _ _)) ?_
         refine WD.take (i := 5) r15chk_spec_t14 (bt 29 63) s21 rfl rfl rfl (by kernel_rfl) (PQ.then (PQ.blk (PQ.then (PQ.then (PQ.blk (PQ.blk (PQ.then (PQ.then (PQ.blk (PQ.then PQ.body)))))))))) rfl (fun w hs => run_load Ty.ag2 rfl ((hs.2.1).cell ((flat_get ptc_len hp (j := 0) (by decide)).trans rfl))) ?_
         refine WD.pure (i := 6) r15chk_spec_t14 (bt 29 127) rfl rfl rfl (by kernel_rfl) (PQ.then (PQ.blk (PQ.then (PQ.then (PQ.blk (PQ.blk (PQ.then (PQ.then (PQ.blk (PQ.then PQ.body)))))))))) rfl (fun w => run_fieldAddr (q := ⟨g7, 1, none⟩) (show fieldB Tryz.prog 99 1 = some 1 from by kernel_rfl) rfl rfl) ?_
         refine WD.take (i := 7) r15chk_spec_t14 (bt 29 255) s21 rfl rfl rfl (by kernel_rfl) (PQ.then (PQ.blk (PQ.then (PQ.then (PQ.blk (PQ.blk (PQ.then (PQ.then (PQ.blk (PQ.then PQ.body)))))))))) rfl (fun w hs => run_load Ty.ag2 rfl ((hs.1 1).trans rfl)) ?_
         refine WD.pure (i := 8) r15chk_spec_t14 (bt 29 511) rfl rfl rfl (by kernel_rfl) (PQ.then (PQ.blk (PQ.then (PQ.then (PQ.blk (PQ.blk (PQ.then (PQ.then (PQ.blk (PQ.then PQ.body)))))))))) rfl (fun w => run_gtr rfl rfl) ?_
         refine WD.pure (i := 9) r15chk_spec_t14 (bt 29 1023) rfl rfl rfl (by kernel_rfl) (PQ.then (PQ.blk (PQ.then (PQ.then (PQ.blk (PQ.blk (PQ.then (PQ.then (PQ.blk (PQ.then PQ.body)))))))))) rfl (fun w => run_move rfl) ?_
         by_cases g69 : u.last < p.t
         ·
          refine WD.off (i := 10) r15chk_spec_t14 (bt 29 2047) rfl rfl rfl (decide_eq_true g69) (by kernel_rfl) (PQ.then (PQ.blk (PQ.then (PQ.then (PQ.blk (PQ.blk (PQ.then (PQ.then (PQ.blk (PQ.then PQ.body)))))))))) rfl ?_
          refine WD.off (i := 11) r15chk_spec_t14 (bt 29 4095) rfl rfl rfl (decide_eq_true g69) (by kernel_rfl) (PQ.then (PQ.blk (PQ.then (PQ.then (PQ.blk (PQ.blk (PQ.then (PQ.then (PQ.blk (PQ.then PQ.body)))))))))) rfl ?_
          refine WD.off (i := 12) r15chk_spec_t14 (bt 29 8191) rfl rfl rfl (decide_eq_true g69) (by kernel_rfl) (PQ.then (PQ.blk (PQ.then (PQ.then (PQ.blk (PQ.blk (PQ.then (PQ.then (PQ.blk (PQ.then PQ.body)))))))))) rfl ?_
          refine WD.offU (i := 13) r15chk_spec_t14 (bt 29 16383) rfl rfl rfl (by kernel_rfl) (PQ.then (PQ.blk (PQ.then (PQ.then (PQ.blk (PQ.blk (PQ.then (PQ.then (PQ.blk (PQ.then PQ.body)))))))))) rfl ?_
          refine WD.offU (i := 14) r15chk_spec_t14 (bt 29 32767) rfl rfl rfl (by kernel_rfl) (PQ.then (PQ.blk (PQ.then (PQ.then (PQ.blk (PQ.blk (PQ.then (PQ.then (PQ.blk (PQ.then PQ.body)))))))))) rfl ?_
          refine WD.offU (i := 15) r15chk_spec_t14 (bt 29 65535) rfl rfl rfl (by kernel_rfl) (PQ.then (PQ.blk (PQ.then (PQ.then (PQ.blk (PQ.blk (PQ.then (PQ.then (PQ.blk (PQ.then PQ.body)))))))))) rfl ?_
          refine WD.offU (i := 16) r15chk_spec_t14 (bt 29 131071) rfl rfl rfl (by kernel_rfl) (PQ.then (PQ.blk (PQ.then (PQ.then (PQ.blk (PQ.blk (PQ.then (PQ.then (PQ.blk (PQ.then PQ.body)))))))))) rfl ?_
          refine WD.offU (i := 17) r15chk_spec_t14 (bt 29 262143) rfl rfl rfl (by kernel_rfl) (PQ.then (PQ.blk (PQ.then (PQ.then (PQ.blk (PQ.blk (PQ.then (PQ.then (PQ.blk (PQ.then PQ.body)))))))))) rfl ?_
          refine WD.offU (i := 18) r15chk_spec_t14 (bt 29 524287) rfl rfl rfl (by kernel_rfl) (PQ.then (PQ.blk (PQ.then (PQ.then (PQ.blk (PQ.blk (PQ.then (PQ.then (PQ.blk (PQ.then PQ.body)))))))))) rfl ?_
          refine WD.offU (i := 19) r15chk_spec_t14 (bt 29 1048575) rfl rfl rfl (by kernel_rfl) (PQ.then (PQ.blk (PQ.then (PQ.then (PQ.blk (PQ.blk (PQ.then (PQ.then (PQ.blk (PQ.then PQ.body)))))))))) rfl ?_
          refine WD.offU (i := 20) r15chk_spec_t14 (bt 29 2097151) rfl rfl rfl (by kernel_rfl) (PQ.then (PQ.blk (PQ.then (PQ.then (PQ.blk (PQ.blk (PQ.then (PQ.then (PQ.blk (PQ.then PQ.body)))))))))) rfl ?_
          refine WD.offU (i := 21) r15chk_spec_t14 (bt 29 4194303) rfl rfl rfl (by kernel_rfl) (PQ.then (PQ.blk (PQ.then (PQ.then (PQ.blk (PQ.blk (PQ.then (PQ.then (PQ.blk (PQ.then PQ.body)))))))))) rfl ?_
          refine WD.offU (i := 22) r15chk_spec_t14 (bt 29 8388607) rfl rfl rfl (by kernel_rfl) (PQ.then (PQ.blk (PQ.then (PQ.then (PQ.blk (PQ.blk (PQ.then (PQ.then (PQ.blk (PQ.then PQ.body)))))))))) rfl ?_
          refine WD.offU (i := 23) r15chk_spec_t14 (bt 29 16777215) rfl rfl rfl (by kernel_rfl) (PQ.then (PQ.blk (PQ.then (PQ.then (PQ.blk (PQ.blk (PQ.then (PQ.then (PQ.blk (PQ.then PQ.body)))))))))) rfl ?_
          refine WD.offU (i := 24) r15chk_spec_t14 (bt 29 33554431) rfl rfl rfl (by kernel_rfl) (PQ.then (PQ.blk (PQ.then (PQ.then (PQ.blk (PQ.blk (PQ.then (PQ.then (PQ.blk (PQ.then PQ.body)))))))))) rfl ?_
          refine WD.offU (i := 25) r15chk_spec_t14 (bt 29 67108863) rfl rfl rfl (by kernel_rfl) (PQ.then (PQ.blk (PQ.then (PQ.then (PQ.blk (PQ.blk (PQ.then (PQ.then (PQ.blk (PQ.then PQ.body)))))))))) rfl ?_
          refine WD.offU (i := 26) r15chk_spec_t14 (bt 29 134217727) rfl rfl rfl (by kernel_rfl) (PQ.then (PQ.blk (PQ.then (PQ.then (PQ.blk (PQ.blk (PQ.then (PQ.then (PQ.blk (PQ.then PQ.body)))))))))) rfl ?_
          refine WD.off (i := 27) r15chk_spec_t14 (bt 29 268435455) rfl rfl rfl (decide_eq_true g69) (by kernel_rfl) (PQ.then (PQ.blk (PQ.then (PQ.then (PQ.blk (PQ.blk (PQ.then (PQ.then (PQ.blk (PQ.then PQ.body)))))))))) rfl ?_
          refine WD.pure (i := 28) r15chk_spec_t14 (bt 29 536870911) rfl rfl rfl (by kernel_rfl) (PQ.then (PQ.blk (PQ.then (PQ.then (PQ.blk (PQ.blk (PQ.then (PQ.then (PQ.blk (PQ.then PQ.body)))))))))) rfl (fun w => run_pickT rfl (decide_eq_true g69) rfl) ?_
          refine WD.done r15chk_spec_t14 (by kernel_rfl) ?_
          refine NX.go ?_
          refine WP.condT rfl rfl ?_
          refine WP.seq (WP.region rfl ?_)
          refine WO.asg rfl rfl ?_
          refine WO.nil (NX.go (WP.ret (NX.blkRet (NX.thenRet (NX.thenRet (NX.blkRet (NX.blkRet (NX.thenRet (NX.thenRet (NX.blkRet (NX.thenRet ?_)))))))))))
          refine NX.done (l := [.tmp 2]) rfl rfl ?_
          have hnb : ¬ (b1.first < 1 ∨ 99999999 < b1.to ∨ b1.to < b1.first) := by omega
          have hpb : ptsOk u.last none u.pt.l = false := by rw [← hpgo, drop_cons hp, ptsOk, show (!(decide (u.last < p.t) || _)) = false by simp [g69], Bool.false_and]
          exact ⟨congrArg (Value.int .i64) (checkB_rows hnb (by decide) (by rw [← hgo, drop_cons hu, rowsGo_pts hck hcm hpb])).symm, hS20.drop.drop.drop.drop.drop.drop.drop⟩
         ·
          refine WD.pureOn (i := 10) r15chk_spec_t14 (bt 29 2047) rfl rfl rfl (decide_eq_false g69) (by kernel_rfl) (PQ.then (PQ.blk (PQ.then (PQ.then (PQ.blk (PQ.blk (PQ.then (PQ.then (PQ.blk (PQ.then PQ.body)))))))))) rfl (fun w => run_move rfl) ?_
          refine WD.pureOn (i := 11) r15chk_spec_t14 (bt 29 4095) rfl rfl rfl (decide_eq_false g69) (by kernel_rfl) (PQ.then (PQ.blk (PQ.then (PQ.then (PQ.blk (PQ.blk (PQ.then (PQ.then (PQ.blk (PQ.then PQ.body)))))))))) rfl (fun w => run_gtr rfl rfl) ?_
          refine WD.pureOn (i := 12) r15chk_spec_t14 (bt 29 8191) rfl rfl rfl (decide_eq_false g69) (by kernel_rfl) (PQ.then (PQ.blk (PQ.then (PQ.then (PQ.blk (PQ.blk (PQ.then (PQ.then (PQ.blk (PQ.then PQ.body)))))))))) rfl (fun w => run_move rfl) ?_
          by_cases g72 : 0 < (k : Int)
          ·
           obtain ⟨pq, hpq1⟩ := hpe (by omega)
           refine WD.pureOn (i := 13) r15chk_spec_t14 (bt 29 16383) rfl rfl rfl (decide_eq_true g72) (by kernel_rfl) (PQ.then (PQ.blk (PQ.then (PQ.then (PQ.blk (PQ.blk (PQ.then (PQ.then (PQ.blk (PQ.then PQ.body)))))))))) rfl (fun w => run_fieldAddr (q := ⟨g7, 2, none⟩) (show fieldB Tryz.prog 99 2 = some 2 from by kernel_rfl) rfl rfl) ?_
           refine WD.takeOn (i := 14) r15chk_spec_t14 (bt 29 32767) s21 rfl rfl rfl (decide_eq_true g72) (by kernel_rfl) (PQ.then (PQ.blk (PQ.then (PQ.then (PQ.blk (PQ.blk (PQ.then (PQ.then (PQ.blk (PQ.then PQ.body)))))))))) rfl (fun w hs => run_load Ty.ag66 rfl ((hs.1 2).trans rfl)) ?_
           refine WD.pureOn (i := 15) r15chk_spec_t14 (bt 29 65535) rfl rfl rfl (decide_eq_true g72) (by kernel_rfl) (PQ.then (PQ.blk (PQ.then (PQ.then (PQ.blk (PQ.blk (PQ.then (PQ.then (PQ.blk (PQ.then PQ.body)))))))))) rfl (fun w => run_move rfl) ?_
           refine WD.takeOn (i := 16) r15chk_spec_t14 (bt 29 131071) s21 rfl rfl rfl (decide_eq_true g72) (by kernel_rfl) (PQ.then (PQ.blk (PQ.then (PQ.then (PQ.blk (PQ.blk (PQ.then (PQ.then (PQ.blk (PQ.then PQ.body)))))))))) rfl (fun w hs => run_indexAddr (q := adr u.pt.a (k * 2)) Tryz.underlying66 Ty.sz103 rfl rfl (by omega) (by omega) ((hs.2.1).2.1 (by omega)) rfl) ?_
           refine WD.pureOn (i := 17) r15chk_spec_t14 (bt 29 262143) rfl rfl rfl (decide_eq_true g72) (by kernel_rfl) (PQ.then (PQ.blk (PQ.then (PQ.then (PQ.blk (PQ.blk (PQ.then (PQ.then (PQ.blk (PQ.then PQ.body)))))))))) rfl (fun w => run_fieldAddr (q := (adr u.pt.a (k * 2 + 0))) (show fieldB Tryz.prog 103 0 = some 0 from by kernel_rfl) rfl (adr_add _ (by assumption) _ _)) ?_
           refine WD.takeOn (i := 18) r15chk_spec_t14 (bt 29 524287) s21 rfl rfl rfl (decide_eq_true g72) (by kernel_rfl) (PQ.then (PQ.blk (PQ.then (PQ.then (PQ.blk (PQ.blk (PQ.then (PQ.then (PQ.blk (PQ.then PQ.body)))))))))) rfl (fun w hs => run_load Ty.ag2 rfl ((hs.2.1).cell ((flat_get ptc_len hp (j := 0) (by decide)).trans rfl))) ?_
           refine WD.pureOn (i := 19) r15chk_spec_t14 (bt 29 1048575) rfl rfl rfl (decide_eq_true g72) (by kernel_rfl) (PQ.then (PQ.blk (PQ.then (PQ.then (PQ.blk (PQ.blk (PQ.then (PQ.then (PQ.blk (PQ.then PQ.body)))))))))) rfl (fun w => run_fieldAddr (q := ⟨g7, 2, none⟩) (show fieldB Tryz.prog 99 2 = some 2 from by kernel_rfl) rfl rfl) ?_
           refine WD.takeOn (i := 20) r15chk_spec_t14 (bt 29 2097151) s21 rfl rfl rfl (decide_eq_true g72) (by kernel_rfl) (PQ.then (PQ.blk (PQ.then (PQ.then (PQ.blk (PQ.blk (PQ.then (PQ.then (PQ.blk (PQ.then PQ.body)))))))))) rfl (fun w hs => run_load Ty.ag66 rfl ((hs.1 2).trans rfl)) ?_
           refine WD.pureOn (i := 21) r15chk_spec_t14 (bt 29 4194303) rfl rfl rfl (decide_eq_true g72) (by kernel_rfl) (PQ.then (PQ.blk (PQ.then (PQ.then (PQ.blk (PQ.blk (PQ.then (PQ.then (PQ.blk (PQ.then PQ.body)))))))))) rfl (fun w => run_move rfl) ?_
           refine WD.pureOn (i := 22) r15chk_spec_t14 (bt 29 8388607) rfl rfl rfl (decide_eq_true g72) (by kernel_rfl) (PQ.then (PQ.blk (PQ.then (PQ.then (PQ.blk (PQ.blk (PQ.then (PQ.then (PQ.blk (PQ.then PQ.body)))))))))) rfl (fun w => run_sub rfl rfl (IntWalk.i64_in _ (by omega))) ?_
           refine WD.takeOn (i := 23) r15chk_spec_t14 (bt 29 16777215) s21 rfl rfl rfl (decide_eq_true g72) (by kernel_rfl) (PQ.then (PQ.blk (PQ.then (PQ.then (PQ.blk (PQ.blk (PQ.then (PQ.then (PQ.blk (PQ.then PQ.body)))))))))) rfl (fun w hs => run_indexAddr (q := adr u.pt.a ((k - 1) * 2)) Tryz.underlying66 Ty.sz103 rfl rfl (by omega) (by omega) ((hs.2.1).2.1 (by omega)) (by rw [show ((k : Int) - 1).toNat = k - 1 by omega])) ?_
           refine WD.pureOn (i := 24) r15chk_spec_t14 (bt 29 33554431) rfl rfl rfl (decide_eq_true g72) (by kernel_rfl) (PQ.then (PQ.blk (PQ.then (PQ.then (PQ.blk (PQ.blk (PQ.then (PQ.then (PQ.blk (PQ.then PQ.body)))))))))) rfl (fun w => run_fieldAddr (q := (adr u.pt.a ((k - 1) * 2 + 0))) (show fieldB Tryz.prog 103 0 = some 0 from by kernel_rfl) rfl (adr_add _ (by assumption) _ _)) ?_
           refine WD.takeOn (i := 25) r15chk_spec_t14 (bt 29 67108863) s21 rfl rfl rfl (decide_eq_true g72) (by kernel_rfl) (PQ.then (PQ.blk (PQ.then (PQ.then (PQ.blk (PQ.blk (PQ.then (PQ.then (PQ.blk (PQ.then PQ.body)))))))))) rfl (fun w hs => run_load Ty.ag2 rfl ((hs.2.1).cell ((flat_get ptc_len hpq1 (j := 0) (by decide)).trans rfl))) ?_
           refine WD.pureOn (i := 26) r15chk_spec_t14 (bt 29 134217727) rfl rfl rfl (decide_eq_true g72) (by kernel_rfl) (PQ.then (PQ.blk (PQ.then (PQ.then (PQ.blk (PQ.blk (PQ.then (PQ.then (PQ.blk (PQ.then PQ.body)))))))))) rfl (fun w => run_leq rfl rfl) ?_
           refine WD.pureOn (i := 27) r15chk_spec_t14 (bt 29 268435455) rfl rfl rfl (decide_eq_false g69) (by kernel_rfl) (PQ.then (PQ.blk (PQ.then (PQ.then (PQ.blk (PQ.blk (PQ.then (PQ.then (PQ.blk (PQ.then PQ.body)))))))))) rfl (fun w => run_pickT rfl (decide_eq_true g72) rfl) ?_
           refine WD.pure (i := 28) r15chk_spec_t14 (bt 29 536870911) rfl rfl rfl (by kernel_rfl) (PQ.then (PQ.blk (PQ.then (PQ.then (PQ.blk (PQ.blk (PQ.then (PQ.then (PQ.blk (PQ.then PQ.body)))))))))) rfl (fun w => run_pickF rfl (decide_eq_false g69) rfl) ?_
           refine WD.done r15chk_spec_t14 (by kernel_rfl) ?_
           refine NX.go ?_
           refine WP.condP rfl (fun g88 => ?_) (fun g88 => ?_)
           ·
            refine WP.seq (WP.region rfl ?_)
            refine WO.asg rfl rfl ?_
            refine WO.nil (NX.go (WP.ret (NX.blkRet (NX.thenRet (NX.thenRet (NX.blkRet (NX.blkRet (NX.thenRet (NX.thenRet (NX.blkRet (NX.thenRet ?_)))))))))))
            refine NX.done (l := [.tmp 2]) rfl rfl ?_
            have hnb : ¬ (b1.first < 1 ∨ 99999999 < b1.to ∨ b1.to < b1.first) := by omega
            have hpb : ptsOk u.last none u.pt.l = false := by rw [← hpgo, drop_cons hp, ptsOk, show (!(decide (u.last < p.t) || tmV pp p)) = false by rw [hpq pq (by omega) hpq1]; simp [tmV, g88], Bool.false_and]
            exact ⟨congrArg (Value.int .i64) (checkB_rows hnb (by decide) (by rw [← hgo, drop_cons hu, rowsGo_pts hck hcm hpb])).symm, hS20.drop.drop.drop.drop.drop.drop.drop⟩
           ·
            refine WP.skip (NX.blk (NX.go ?_))
            have hpk : (!(decide (u.last < p.t) || tmV pp p)) = true := by rw [hpq pq (by omega) hpq1]; simp [tmV]; omega
            refine WP.region rfl ?_
            refine WO.mv rfl rfl ?_
            refine WO.val (run_add rfl rfl (IntWalk.i64_in _ (by omega))) rfl rfl rfl ?_
            refine WO.asg rfl rfl ?_
            refine WO.nil ?_
            exact NX.again (k + 1, some p) ⟨⟨by omega, fun h => by omega, fun q _ h => by rw [Nat.add_sub_cancel, hp] at h; cases h; rfl, by rw [← hpgo, drop_cons hp, ptsOk, hpk]; rfl⟩, hS20⟩ (by show u.pt.l.length - (k + 1) < u.pt.l.length - k; omega) (Sub.cons rfl (Sub.cons rfl (Sub.cons rfl (Sub.cons rfl (Sub.consE rfl (by congr 1) (Sub.nil _))))))
          ·
           refine WD.off (i := 13) r15chk_spec_t14 (bt 29 16383) rfl rfl rfl (decide_eq_false g72) (by kernel_rfl) (PQ.then (PQ.blk (PQ.then (PQ.then (PQ.blk (PQ.blk (PQ.then (PQ.then (PQ.blk (PQ.then PQ.body)))))))))) rfl ?_
           refine WD.off (i := 14) r15chk_spec_t14 (bt 29 32767) rfl rfl rfl (decide_eq_false g72) (by kernel_rfl) (PQ.then (PQ.blk (PQ.then (PQ.then (PQ.blk (PQ.blk (PQ.then (PQ.then (PQ.blk (PQ.then PQ.body)))))))))) rfl ?_
           refine WD.off (i := 15) r15chk_spec_t14 (bt 29 65535) rfl rfl rfl (decide_eq_false g72) (by kernel_rfl) (PQ.then (PQ.blk (PQ.then (PQ.then (PQ.blk (PQ.blk (PQ.then (PQ.then (PQ.blk (PQ.then PQ.body)))))))))) rfl ?_
           refine WD.off (i := 16) r15chk_spec_t14 (bt 29 131071) rfl rfl rfl (decide_eq_false g72) (by kernel_rfl) (PQ.then (PQ.blk (PQ.then (PQ.then (PQ.blk (PQ.blk (PQ.then (PQ.then (PQ.blk (PQ.then PQ.body)))))))))) rfl ?_
           refine WD.off (i := 17) r15chk_spec_t14 (bt 29 262143) rfl rfl rfl (decide_eq_false g72) (by kernel_rfl) (PQ.then (PQ.blk (PQ.then (PQ.then (PQ.blk (PQ.blk (PQ.then (PQ.then (PQ.blk (PQ.then PQ.body)))))))))) rfl ?_
           refine WD.off (i := 18) r15chk_spec_t14 (bt 29 524287) rfl rfl rfl (decide_eq_false g72) (by kernel_rfl) (PQ.then (PQ.blk (PQ.then (PQ.then (PQ.blk (PQ.blk (PQ.then (PQ.then (PQ.blk (PQ.then PQ.body)))))))))) rfl ?_
           refine WD.off (i := 19) r15chk_spec_t14 (bt 29 1048575) rfl rfl rfl (decide_eq_false g72) (by kernel_rfl) (PQ.then (PQ.blk (PQ.then (PQ.then (PQ.blk (PQ.blk (PQ.then (PQ.then (PQ.blk (PQ.then PQ.body)))))))))) rfl ?_
           refine WD.off (i := 20) r15chk_spec_t14 (bt 29 2097151) rfl rfl rfl (decide_eq_false g72) (by kernel_rfl) (PQ.then (PQ.blk (PQ.then (PQ.then (PQ.blk (PQ.blk (PQ.then (PQ.then (PQ.blk (PQ.then PQ.body)))))))))) rfl ?_
           refine WD.off (i := 21) r15chk_spec_t14 (bt 29 4194303) rfl rfl rfl (decide_eq_false g72) (by kernel_rfl) (PQ.then (PQ.blk (PQ.then (PQ.then (PQ.blk (PQ.blk (PQ.then (PQ.then (PQ.blk (PQ.then PQ.body)))))))))) rfl ?_
           refine WD.off (i := 22) r15chk_spec_t14 (bt 29 8388607) rfl rfl rfl (decide_eq_false g72) (by kernel_rfl) (PQ.then (PQ.blk (PQ.then (PQ.then (PQ.blk (PQ.blk (PQ.then (PQ.then (PQ.blk (PQ.then PQ.body)))))))))) rfl ?_
           refine WD.off (i := 23) r15chk_spec_t14 (bt 29 16777215) rfl rfl rfl (decide_eq_false g72) (by kernel_rfl) (PQ.then (PQ.blk (PQ.then (PQ.then (PQ.blk (PQ.blk (PQ.then (PQ.then (PQ.blk (PQ.then PQ.body)))))))))) rfl ?_
           refine WD.off (i := 24) r15chk_spec_t14 (bt 29 33554431) rfl rfl rfl (decide_eq_false g72) (by kernel_rfl) (PQ.then (PQ.blk (PQ.then (PQ.then (PQ.blk (PQ.blk (PQ.then (PQ.then (PQ.blk (PQ.then PQ.body)))))))))) rfl ?_
           refine WD.off (i := 25) r15chk_spec_t14 (bt 29 67108863) rfl rfl rfl (decide_eq_false g72) (by kernel_rfl) (PQ.then (PQ.blk (PQ.then (PQ.then (PQ.blk (PQ.blk (PQ.then (PQ.then (PQ.blk (PQ.then PQ.body)))))))))) rfl ?_
           refine WD.off (i := 26) r15chk_spec_t14 (bt 29 134217727) rfl rfl rfl (decide_eq_false g72) (by kernel_rfl) (PQ.then (PQ.blk (PQ.then (PQ.then (PQ.blk (PQ.blk (PQ.then (PQ.then (PQ.blk (PQ.then PQ.body)))))))))) rfl ?_
           refine WD.pureOn (i := 27) r15chk_spec_t14 (bt 29 268435455) rfl rfl rfl (decide_eq_false g69) (by kernel_rfl) (PQ.then (PQ.blk (PQ.then (PQ.then (PQ.blk (PQ.blk (PQ.then (PQ.then (PQ.blk (PQ.then PQ.body)))))))))) rfl (fun w => run_pickF rfl (decide_eq_false g72) rfl) ?_
           refine WD.pure (i := 28) r15chk_spec_t14 (bt 29 536870911) rfl rfl rfl (by kernel_rfl) (PQ.then (PQ.blk (PQ.then (PQ.then (PQ.blk (PQ.blk (PQ.then (PQ.then (PQ.blk (PQ.then PQ.body)))))))))) rfl (fun w => run_pickF rfl (decide_eq_false g69) rfl) ?_
           refine WD.done r15chk_spec_t14 (by kernel_rfl) ?_
           refine NX.go ?_
           refine WP.condF rfl rfl ?_
           refine WP.skip (NX.blk (NX.go ?_))
           have hpk : (!(decide (u.last < p.t) || tmV pp p)) = true := by rw [hpz (by omega)]; simp [tmV]; omega
           refine WP.region rfl ?_
           refine WO.mv rfl rfl ?_
           refine WO.val (run_add rfl rfl (IntWalk.i64_in _ (by omega))) rfl rfl rfl ?_
           refine WO.asg rfl rfl ?_
           refine WO.nil ?_
           exact NX.again (k + 1, some p) ⟨⟨by omega, fun h => by omega, fun q _ h => by rw [Nat.add_sub_cancel, hp] at h; cases h; rfl, by rw [← hpgo, drop_cons hp, ptsOk, hpk]; rfl⟩, hS20⟩ (by show u.pt.l.length - (k + 1) < u.pt.l.length - k; omega) (Sub.cons rfl (Sub.cons rfl (Sub.cons rfl (Sub.cons rfl (Sub.consE rfl (by congr 1) (Sub.nil _))))))
        ·
         refine WP.exit (NX.thenExit (NX.thenExit ?_))
         refine NX.blkExit ?_
         refine NX.blk (NX.go (WP.region rfl ?_))
         refine WO.mv rfl rfl ?_
         refine WO.val (run_add rfl rfl (IntWalk.i64_in _ (by omega))) rfl rfl rfl ?_
         refine WO.asg rfl rfl ?_
         refine WO.nil ?_
         exact NX.again (i + 1, some u) ⟨⟨by omega, fun h => by omega, fun q _ h => by rw [Nat.add_sub_cancel, hu] at h; cases h; rfl, by rw [← hgo, drop_cons hu, rowsGo_go hck hcm (by rw [← hpgo, List.drop_of_length_le (by omega)]; rfl)]⟩, hS19.drop.drop⟩ (by show b1.rs.l.length - (i + 1) < b1.rs.l.length - i; omega) (Sub.cons rfl (Sub.cons rfl (Sub.consE rfl (by congr 1) (Sub.nil _))))
      ·
       refine WD.off (i := 3) r15chk_spec_t9 (bt 15 15) rfl rfl rfl (decide_eq_false g40) (by kernel_rfl) (PQ.then (PQ.then (PQ.blk (PQ.then (PQ.then (PQ.blk (PQ.then PQ.body))))))) rfl ?_
       refine WD.off (i := 4) r15chk_spec_t9 (bt 15 31) rfl rfl rfl (decide_eq_false g40) (by kernel_rfl) (PQ.then (PQ.then (PQ.blk (PQ.then (PQ.then (PQ.blk (PQ.then PQ.body))))))) rfl ?_
       refine WD.off (i := 5) r15chk_spec_t9 (bt 15 63) rfl rfl rfl (decide_eq_false g40) (by kernel_rfl) (PQ.then (PQ.then (PQ.blk (PQ.then (PQ.then (PQ.blk (PQ.then PQ.body))))))) rfl ?_
       refine WD.off (i := 6) r15chk_spec_t9 (bt 15 127) rfl rfl rfl (decide_eq_false g40) (by kernel_rfl) (PQ.then (PQ.then (PQ.blk (PQ.then (PQ.then (PQ.blk (PQ.then PQ.body))))))) rfl ?_
       refine WD.off (i := 7) r15chk_spec_t9 (bt 15 255) rfl rfl rfl (decide_eq_false g40) (by kernel_rfl) (PQ.then (PQ.then (PQ.blk (PQ.then (PQ.then (PQ.blk (PQ.then PQ.body))))))) rfl ?_
       refine WD.off (i := 8) r15chk_spec_t9 (bt 15 511) rfl rfl rfl (decide_eq_false g40) (by kernel_rfl) (PQ.then (PQ.then (PQ.blk (PQ.then (PQ.then (PQ.blk (PQ.then PQ.body))))))) rfl ?_
       refine WD.off (i := 9) r15chk_spec_t9 (bt 15 1023) rfl rfl rfl (decide_eq_false g40) (by kernel_rfl) (PQ.then (PQ.then (PQ.blk (PQ.then (PQ.then (PQ.blk (PQ.then PQ.body))))))) rfl ?_
       refine WD.off (i := 10) r15chk_spec_t9 (bt 15 2047) rfl rfl rfl (decide_eq_false g40) (by kernel_rfl) (PQ.then (PQ.then (PQ.blk (PQ.then (PQ.then (PQ.blk (PQ.then PQ.body))))))) rfl ?_
       refine WD.off (i := 11) r15chk_spec_t9 (bt 15 4095) rfl rfl rfl (decide_eq_false g40) (by kernel_rfl) (PQ.then (PQ.then (PQ.blk (PQ.then (PQ.then (PQ.blk (PQ.then PQ.body))))))) rfl ?_
       refine WD.off (i := 12) r15chk_spec_t9 (bt 15 8191) rfl rfl rfl (decide_eq_false g40) (by kernel_rfl) (PQ.then (PQ.then (PQ.blk (PQ.then (PQ.then (PQ.blk (PQ.then PQ.body))))))) rfl ?_
       refine WD.off (i := 13) r15chk_spec_t9 (bt 15 16383) rfl rfl rfl (decide_eq_false g40) (by kernel_rfl) (PQ.then (PQ.then (PQ.blk (PQ.then (PQ.then (PQ.blk (PQ.then PQ.body))))))) rfl ?_
       refine WD.pure (i := 14) r15chk_spec_t9 (bt 15 32767) rfl rfl rfl (by kernel_rfl) (PQ.then (PQ.then (PQ.blk (PQ.then (PQ.then (PQ.blk (PQ.then PQ.body))))))) rfl (fun w => run_pickF rfl (decide_eq_false g40) rfl) ?_
       refine WD.done r15chk_spec_t9 (by kernel_rfl) ?_
       refine NX.go ?_
       refine WP.condF rfl rfl ?_
       refine WP.skip (NX.go (WP.seq ?_))
       have hcm : cmpV pv u = false := by rw [hz0 (by omega)]; rfl
       refine WP.region rfl ?_
       refine WO.asg rfl rfl ?_
       refine WO.nil (NX.go (WP.block ?_))
       refine WP.loop (α := Nat × Option Pt) (fun x => match x with | ⟨k, pp⟩ => [(1, Value.pointer (some ⟨g2, 0, none⟩)), (2, Value.int .i64 0), (3, Value.int .i64 (i : Int)), (4, Value.pointer (some ⟨g7, 0, none⟩)), (5, Value.int .i64 (k : Int))]) (fun x w => match x with | ⟨k, pp⟩ => (k ≤ u.pt.l.length ∧ (k = 0 → pp = none) ∧ (∀ q, 0 < k → u.pt.l[k - 1]? = some q → pp = some q) ∧ ptsOk u.last pp (u.pt.l.drop k) = ptsOk u.last none u.pt.l) ∧ St B (cel g7 [Value.slice u.lb.a u.lb.l.length u.lb.cap, Value.int .i64 u.last, Value.slice u.pt.a u.pt.l.length u.pt.cap] 99 :: (ptsA u.pt) :: cel g2 [Value.int .i64 b1.first, Value.int .i64 b1.to, Value.slice b1.rs.a b1.rs.l.length b1.rs.cap, Value.slice b1.ds.a b1.ds.l.length b1.ds.cap] 51 :: (rsA b1.rs) :: allA mrA b1.rs.l :: (dsA b1.ds) :: allA recA b1.ds.l :: blA b1 :: L) w) (fun x => match x with | ⟨k, pp⟩ => u.pt.l.length - k) (0, none) ⟨⟨Nat.zero_le _, fun _ => rfl, fun q h => absurd h (by omega), rfl⟩, (hS12.permT [0, 0, 0, 1, 1, 0] (L' := (labA u.lb) :: cel g7 [Value.slice u.lb.a u.lb.l.length u.lb.cap, Value.int .i64 u.last, Value.slice u.pt.a u.pt.l.length u.pt.cap] 99 :: (ptsA u.pt) :: cel g2 [Value.int .i64 b1.first, Value.int .i64 b1.to, Value.slice b1.rs.a b1.rs.l.length b1.rs.cap, Value.slice b1.ds.a b1.ds.l.length b1.ds.cap] 51 :: (rsA b1.rs) :: allA mrA b1.rs.l :: (dsA b1.ds) :: allA recA b1.ds.l :: blA b1 :: L) rfl).drop⟩ (Sub.cons rfl (Sub.cons rfl (Sub.cons rfl (Sub.cons rfl (Sub.consE rfl (by first | rfl | first | rfl | (congr 1; omega) | (simp; done) | (simp; omega)) (Sub.nil _)))))) ?_
       rintro ⟨k, pp⟩ w22 ⟨⟨hk, hpz, hpq, hpgo⟩, hS22⟩
       clear hS12
       refine WP.seq (WP.seq (WP.region rfl ?_))
       refine WO.mv rfl rfl ?_
       refine WO.val (run_fieldAddr (q := ⟨g7, 2, none⟩) (show fieldB Tryz.prog 99 2 = some 2 from by kernel_rfl) rfl rfl) rfl rfl rfl ?_
       refine WO.val (run_load Ty.ag66 rfl ((hS22.cel_at 0 rfl 2).trans rfl)) rfl rfl rfl ?_
       refine WO.val (run_len rfl Tryz.underlying66 rfl) rfl rfl rfl ?_
       refine WO.val (run_lss rfl rfl) rfl rfl rfl ?_
       refine WO.nil (NX.go ?_)
       refine WP.condP rfl (fun g57 => ?_) (fun g57 => ?_)
       ·
        refine WP.skip (NX.go (WP.seq (WP.block (WP.seq ?_))))
        obtain ⟨p, hp⟩ : ∃ qq, u.pt.l[k]? = some qq := ⟨_, List.getElem?_eq_getElem (by omega)⟩
        have hsp : u.pt.a.isSome = true := rd_isSome ((rdH_rd (hS22.focus 1 rfl))) (by omega)
        have hpe : 0 < k → ∃ q, u.pt.l[k - 1]? = some q := fun h => ⟨_, List.getElem?_eq_getElem (by omega)⟩
        refine WD.start (fun w => (∀ jz, World.cell? w ⟨g7, jz, none⟩ = [Value.slice u.lb.a u.lb.l.length u.lb.cap, Value.int .i64 u.last, Value.slice u.pt.a u.pt.l.length u.pt.cap][jz]?) ∧ Rd w u.pt.a u.pt.l.length 2 (u.pt.l.flatMap ptc) ∧ (∀ jz, World.cell? w ⟨g2, jz, none⟩ = [Value.int .i64 b1.first, Value.int .i64 b1.to, Value.slice b1.rs.a b1.rs.l.length b1.rs.cap, Value.slice b1.ds.a b1.ds.l.length b1.ds.cap][jz]?) ∧ Rd w b1.rs.a b1.rs.l.length 3 (b1.rs.l.flatMap mrc)) [] (bt 29 0) Ty.mo rfl (by kernel_rfl) hS22 (fun _ h => ⟨h.cel_at 0 rfl, (rdH_rd (h.focus 1 rfl)), h.cel_at 2 rfl, (rdH_rd (h.focus 3 rfl))⟩) (fun w23 hS23 s24 => ?_)
        clear hS22
        refine WD.pure (i := 0) r15chk_spec_t14 (bt 29 1) rfl rfl rfl (by kernel_rfl) (PQ.then (PQ.blk (PQ.then (PQ.then (PQ.blk (PQ.blk (PQ.then (PQ.then (PQ.blk (PQ.then PQ.body)))))))))) rfl (fun w => run_fieldAddr (q := ⟨g7, 2, none⟩) (show fieldB Tryz.prog 99 2 = some 2 from by kernel_rfl) rfl rfl) ?_
        refine WD.take (i := 1) r15chk_spec_t14 (bt 29 3) s24 rfl rfl rfl (by kernel_rfl) (PQ.then (PQ.blk (PQ.then (PQ.then (PQ.blk (PQ.blk (PQ.then (PQ.then (PQ.blk (PQ.then PQ.body)))))))))) rfl (fun w hs => run_load Ty.ag66 rfl ((hs.1 2).trans rfl)) ?_
        refine WD.pure (i := 2) r15chk_spec_t14 (bt 29 7) rfl rfl rfl (by kernel_rfl) (PQ.then (PQ.blk (PQ.then (PQ.then (PQ.blk (PQ.blk (PQ.then (PQ.then (PQ.blk (PQ.then PQ.body)))))))))) rfl (fun w => run_move rfl) ?_
        refine WD.take (i := 3) r15chk_spec_t14 (bt 29 15) s24 rfl rfl rfl (by kernel_rfl) (PQ.then (PQ.blk (PQ.then (PQ.then (PQ.blk (PQ.blk (PQ.then (PQ.then (PQ.blk (PQ.then PQ.body)))))))))) rfl (fun w hs => run_indexAddr (q := adr u.pt.a (k * 2)) Tryz.underlying66 Ty.sz103 rfl rfl (by omega) (by omega) ((hs.2.1).2.1 (by omega)) rfl) ?_
        refine WD.pure (i := 4) r15chk_spec_t14 (bt 29 31) rfl rfl rfl (by kernel_rfl) (PQ.then (PQ.blk (PQ.then (PQ.then (PQ.blk (PQ.blk (PQ.then (PQ.then (PQ.blk (PQ.then PQ.body)))))))))) rfl (fun w => run_fieldAddr (q := (adr u.pt.a (k * 2 + 0))) (show fieldB Tryz.prog 103 0 = some 0 from by kernel_rfl) rfl (adr_add _ (by assumption) _ _)) ?_
        refine WD.take (i := 5) r15chk_spec_t14 (bt 29 63) s24 rfl rfl rfl (by kernel_rfl) (PQ.then (PQ.blk (PQ.then (PQ.then (PQ.blk (PQ.blk (PQ.then (PQ.then (PQ.blk (PQ.then PQ.body)))))))))) rfl (fun w hs => run_load Ty.ag2 rfl ((hs.2.1).cell ((flat_get ptc_len hp (j := 0) (by decide)).trans rfl))) ?_
        refine WD.pure (i := 6) r15chk_spec_t14 (bt 29 127) rfl rfl rfl (by kernel_rfl) (PQ.then (PQ.blk (PQ.then (PQ.then (PQ.blk (PQ.blk (PQ.then (PQ.then (PQ.blk (PQ.then PQ.body)))))))))) rfl (fun w => run_fieldAddr (q := ⟨g7, 1, none⟩) (show fieldB Tryz.prog 99 1 = some 1 from by kernel_rfl) rfl rfl) ?_
        refine WD.take (i := 7) r15chk_spec_t14 (bt 29 255) s24 rfl rfl rfl (by kernel_rfl) (PQ.then (PQ.blk (PQ.then (PQ.then (PQ.blk (PQ.blk (PQ.then (PQ.then (PQ.blk (PQ.then PQ.body)))))))))) rfl (fun w hs => run_load Ty.ag2 rfl ((hs.1 1).trans rfl)) ?_
        refine WD.pure (i := 8) r15chk_spec_t14 (bt 29 511) rfl rfl rfl (by kernel_rfl) (PQ.then (PQ.blk (PQ.then (PQ.then (PQ.blk (PQ.blk (PQ.then (PQ.then (PQ.blk (PQ.then PQ.body)))))))))) rfl (fun w => run_gtr rfl rfl) ?_
        refine WD.pure (i := 9) r15chk_spec_t14 (bt 29 1023) rfl rfl rfl (by kernel_rfl) (PQ.then (PQ.blk (PQ.then (PQ.then (PQ.blk (PQ.blk (PQ.then (PQ.then (PQ.blk (PQ.then PQ.body)))))))))) rfl (fun w => run_move rfl) ?_
        by_cases g69 : u.last < p.t
        ·
         refine WD.off (i := 10) r15chk_spec_t14 (bt 29 2047) rfl rfl rfl (decide_eq_true g69) (by kernel_rfl) (PQ.then (PQ.blk (PQ.then (PQ.then (PQ.blk (PQ.blk (PQ.then (PQ.then (PQ.blk (PQ.then PQ.body)))))))))) rfl ?_
         refine WD.off (i := 11) r15chk_spec_t14 (bt 29 4095) rfl rfl rfl (decide_eq_true g69) (by kernel_rfl) (PQ.then (PQ.blk (PQ.then (PQ.then (PQ.blk (PQ.blk (PQ.then (PQ.then (PQ.blk (PQ.then PQ.body)))))))))) rfl ?_
         refine WD.off (i := 12) r15chk_spec_t14 (bt 29 8191) rfl rfl rfl (decide_eq_true g69) (by kernel_rfl) (PQ.then (PQ.blk (PQ.then (PQ.then (PQ.blk (PQ.blk (PQ.then (PQ.then (PQ.blk (PQ.then PQ.body)))))))))) rfl ?_
         refine WD.offU (i := 13) r15chk_spec_t14 (bt 29 16383) rfl rfl rfl (by kernel_rfl) (PQ.then (PQ.blk (PQ.then (PQ.then (PQ.blk (PQ.blk (PQ.then (PQ.then (PQ.blk (PQ.then PQ.body)))))))))) rfl ?_
         refine WD.offU (i := 14) r15chk_spec_t14 (bt 29 32767) rfl rfl rfl (by kernel_rfl) (PQ.then (PQ.blk (PQ.then (PQ.then (PQ.blk (PQ.blk (PQ.then (PQ.then (PQ.blk (PQ.then PQ.body)))))))))) rfl ?_
         refine WD.offU (i := 15) r15chk_spec_t14 (bt 29 65535) rfl rfl rfl (by kernel_rfl) (PQ.then (PQ.blk (PQ.then (PQ.then (PQ.blk (PQ.blk (PQ.then (PQ.then (PQ.blk (PQ.then PQ.body)))))))))) rfl ?_
         refine WD.offU (i := 16) r15chk_spec_t14 (bt 29 131071) rfl rfl rfl (by kernel_rfl) (PQ.then (PQ.blk (PQ.then (PQ.then (PQ.blk (PQ.blk (PQ.then (PQ.then (PQ.blk (PQ.then PQ.body)))))))))) rfl ?_
         refine WD.offU (i := 17) r15chk_spec_t14 (bt 29 262143) rfl rfl rfl (by kernel_rfl) (PQ.then (PQ.blk (PQ.then (PQ.then (PQ.blk (PQ.blk (PQ.then (PQ.then (PQ.blk (PQ.then PQ.body)))))))))) rfl ?_
         refine WD.offU (i := 18) r15chk_spec_t14 (bt 29 524287) rfl rfl rfl (by kernel_rfl) (PQ.then (PQ.blk (PQ.then (PQ.then (PQ.blk (PQ.blk (PQ.then (PQ.then (PQ.blk (PQ.then PQ.body)))))))))) rfl ?_
         refine WD.offU (i := 19) r15chk_spec_t14 (bt 29 1048575) rfl rfl rfl (by kernel_rfl) (PQ.then (PQ.blk (PQ.then (PQ.then (PQ.blk (PQ.blk (PQ.then (PQ.then (PQ.blk (PQ.then PQ.body)))))))))) rfl ?_
         refine WD.offU (i := 20) r15chk_spec_t14 (bt 29 2097151) rfl rfl rfl (by kernel_rfl) (PQ.then (PQ.blk (PQ.then (PQ.then (PQ.blk (PQ.blk (PQ.then (PQ.then (PQ.blk (PQ.then PQ.body)))))))))) rfl ?_
         refine WD.offU (i := 21) r15chk_spec_t14 (bt 29 4194303) rfl rfl rfl (by kernel_rfl) (PQ.then (PQ.blk (PQ.then (PQ.then (PQ.blk (PQ.blk (PQ.then (PQ.then (PQ.blk (PQ.then PQ.body)))))))))) rfl ?_
         refine WD.offU (i := 22) r15chk_spec_t14 (bt 29 8388607) rfl rfl rfl (by kernel_rfl) (PQ.then (PQ.blk (PQ.then (PQ.then (PQ.blk (PQ.blk (PQ.then (PQ.then (PQ.blk (PQ.then PQ.body)))))))))) rfl ?_
         refine WD.offU (i := 23) r15chk_spec_t14 (bt 29 16777215) rfl rfl rfl (by kernel_rfl) (PQ.then (PQ.blk (PQ.then (PQ.then (PQ.blk (PQ.blk (PQ.then (PQ.then (PQ.blk (PQ.then PQ.body)))))))))) rfl ?_
         refine WD.offU (i := 24) r15chk_spec_t14 (bt 29 33554431) rfl rfl rfl (by kernel_rfl) (PQ.then (PQ.blk (PQ.then (PQ.then (PQ.blk (PQ.blk (PQ.then (PQ.then (PQ.blk (PQ.then PQ.body)))))))))) rfl ?_
         refine WD.offU (i := 25) r15chk_spec_t14 (bt 29 67108863) rfl rfl rfl (by kernel_rfl) (PQ.then (PQ.blk (PQ.then (PQ.then (PQ.blk (PQ.blk (PQ.then (PQ.then (PQ.blk (PQ.then PQ.body)))))))))) rfl ?_
         refine WD.offU (i := 26) r15chk_spec_t14 (bt 29 134217727) rfl rfl rfl (by kernel_rfl) (PQ.then (PQ.blk (PQ.then (PQ.then (PQ.blk (PQ.blk (PQ.then (PQ.then (PQ.blk (PQ.then PQ.body)))))))))) rfl ?_
         refine WD.off (i := 27) r15chk_spec_t14 (bt 29 268435455) rfl rfl rfl (decide_eq_true g69) (by kernel_rfl) (PQ.then (PQ.blk (PQ.then (PQ.then (PQ.blk (PQ.blk (PQ.then (PQ.then (PQ.blk (PQ.then PQ.body)))))))))) rfl ?_
         refine WD.pure (i := 28) r15chk_spec_t14 (bt 29 536870911) rfl rfl rfl (by kernel_rfl) (PQ.then (PQ.blk (PQ.then (PQ.then (PQ.blk (PQ.blk (PQ.then (PQ.then (PQ.blk (PQ.then PQ.body)))))))))) rfl (fun w => run_pickT rfl (decide_eq_true g69) rfl) ?_
         refine WD.done r15chk_spec_t14 (by kernel_rfl) ?_
         refine NX.go ?_
         refine WP.condT rfl rfl ?_
         refine WP.seq (WP.region rfl ?_)
         refine WO.asg rfl rfl ?_
         refine WO.nil (NX.go (WP.ret (NX.blkRet (NX.thenRet (NX.thenRet (NX.blkRet (NX.blkRet (NX.thenRet (NX.thenRet (NX.blkRet (NX.thenRet ?_)))))))))))
         refine NX.done (l := [.tmp 2]) rfl rfl ?_
         have hnb : ¬ (b1.first < 1 ∨ 99999999 < b1.to ∨ b1.to < b1.first) := by omega
         have hpb : ptsOk u.last none u.pt.l = false := by rw [← hpgo, drop_cons hp, ptsOk, show (!(decide (u.last < p.t) || _)) = false by simp [g69], Bool.false_and]
         exact ⟨congrArg (Value.int .i64) (checkB_rows hnb (by decide) (by rw [← hgo, drop_cons hu, rowsGo_pts hck hcm hpb])).symm, hS23.drop.drop.drop.drop.drop.drop.drop⟩
        ·
         refine WD.pureOn (i := 10) r15chk_spec_t14 (bt 29 2047) rfl rfl rfl (decide_eq_false g69) (by kernel_rfl) (PQ.then (PQ.blk (PQ.then (PQ.then (PQ.blk (PQ.blk (PQ.then (PQ.then (PQ.blk (PQ.then PQ.body)))))))))) rfl (fun w => run_move rfl) ?_
         refine WD.pureOn (i := 11) r15chk_spec_t14 (bt 29 4095) rfl rfl rfl (decide_eq_false g69) (by kernel_rfl) (PQ.then (PQ.blk (PQ.then (PQ.then (PQ.blk (PQ.blk (PQ.then (PQ.then (PQ.blk (PQ.then PQ.body)))))))))) rfl (fun w => run_gtr rfl rfl) ?_
         refine WD.pureOn (i := 12) r15chk_spec_t14 (bt 29 8191) rfl rfl rfl (decide_eq_false g69) (by kernel_rfl) (PQ.then (PQ.blk (PQ.then (PQ.then (PQ.blk (PQ.blk (PQ.then (PQ.then (PQ.blk (PQ.then PQ.body)))))))))) rfl (fun w => run_move rfl) ?_
         by_cases g72 : 0 < (k : Int)
         ·
          obtain ⟨pq, hpq1⟩ := hpe (by omega)
          refine WD.pureOn (i := 13) r15chk_spec_t14 (bt 29 16383) rfl rfl rfl (decide_eq_true g72) (by kernel_rfl) (PQ.then (PQ.blk (PQ.then (PQ.then (PQ.blk (PQ.blk (PQ.then (PQ.then (PQ.blk (PQ.then PQ.body)))))))))) rfl (fun w => run_fieldAddr (q := ⟨g7, 2, none⟩) (show fieldB Tryz.prog 99 2 = some 2 from by kernel_rfl) rfl rfl) ?_
          refine WD.takeOn (i := 14) r15chk_spec_t14 (bt 29 32767) s24 rfl rfl rfl (decide_eq_true g72) (by kernel_rfl) (PQ.then (PQ.blk (PQ.then (PQ.then (PQ.blk (PQ.blk (PQ.then (PQ.then (PQ.blk (PQ.then PQ.body)))))))))) rfl (fun w hs => run_load Ty.ag66 rfl ((hs.1 2).trans rfl)) ?_
          refine WD.pureOn (i := 15) r15chk_spec_t14 (bt 29 65535) rfl rfl rfl (decide_eq_true g72) (by kernel_rfl) (PQ.then (PQ.blk (PQ.then (PQ.then (PQ.blk (PQ.blk (PQ.then (PQ.then (PQ.blk (PQ.then PQ.body)))))))))) rfl (fun w => run_move rfl) ?_
          refine WD.takeOn (i := 16) r15chk_spec_t14 (bt 29 131071) s24 rfl rfl rfl (decide_eq_true g72) (by kernel_rfl) (PQ.then (PQ.blk (PQ.then (PQ.then (PQ.blk (PQ.blk (PQ.then (PQ.then (PQ.blk (PQ.then PQ.body)))))))))) rfl (fun w hs => run_indexAddr (q := adr u.pt.a (k * 2)) Tryz.underlying66 Ty.sz103 rfl rfl (by omega) (by omega) ((hs.2.1).2.1 (by omega)) rfl) ?_
          refine WD.pureOn (i := 17) r15chk_spec_t14 (bt 29 262143) rfl rfl rfl (decide_eq_true g72) (by kernel_rfl) (PQ.then (PQ.blk (PQ.then (PQ.then (PQ.blk (PQ.blk (PQ.then (PQ.then (PQ.blk (PQ.then PQ.body)))))))))) rfl (fun w => run_fieldAddr (q := (adr u.pt.a (k * 2 + 0))) (show fieldB Tryz.prog 103 0 = some 0 from by kernel_rfl) rfl (adr_add _ (by assumption) _ _)) ?_
          refine WD.takeOn (i := 18) r15chk_spec_t14 (bt 29 524287) s24 rfl rfl rfl (decide_eq_true g72) (by kernel_rfl) (PQ.then (PQ.blk (PQ.then (PQ.then (PQ.blk (PQ.blk (PQ.then (PQ.then (PQ.blk (PQ.then PQ.body)))))))))) rfl (fun w hs => run_load Ty.ag2 rfl ((hs.2.1).cell ((flat_get ptc_len hp (j := 0) (by decide)).trans rfl))) ?_
          refine WD.pureOn (i := 19) r15chk_spec_t14 (bt 29 1048575) rfl rfl rfl (decide_eq_true g72) (by kernel_rfl) (PQ.then (PQ.blk (PQ.then (PQ.then (PQ.blk (PQ.blk (PQ.then (PQ.then (PQ.blk (PQ.then PQ.body)))))))))) rfl (fun w => run_fieldAddr (q := ⟨g7, 2, none⟩) (show fieldB Tryz.prog 99 2 = some 2 from by kernel_rfl) rfl rfl) ?_
          refine WD.takeOn (i := 20) r15chk_spec_t14 (bt 29 2097151) s24 rfl rfl rfl (decide_eq_true g72) (by kernel_rfl) (PQ.then (PQ.blk (PQ.then (PQ.then (PQ.blk (PQ.blk (PQ.then (PQ.then (PQ.blk (PQ.then PQ.body)))))))))) rfl (fun w hs => run_load Ty.ag66 rfl ((hs.1 2).trans rfl)) ?_
          refine WD.pureOn (i := 21) r15chk_spec_t14 (bt 29 4194303) rfl rfl rfl (decide_eq_true g72) (by kernel_rfl) (PQ.then (PQ.blk (PQ.then (PQ.then (PQ.blk (PQ.blk (PQ.then (PQ.then (PQ.blk (PQ.then PQ.body)))))))))) rfl (fun w => run_move rfl) ?_
          refine WD.pureOn (i := 22) r15chk_spec_t14 (bt 29 8388607) rfl rfl rfl (decide_eq_true g72) (by kernel_rfl) (PQ.then (PQ.blk (PQ.then (PQ.then (PQ.blk (PQ.blk (PQ.then (PQ.then (PQ.blk (PQ.then PQ.body)))))))))) rfl (fun w => run_sub rfl rfl (IntWalk.i64_in _ (by omega))) ?_
          refine WD.takeOn (i := 23) r15chk_spec_t14 (bt 29 16777215) s24 rfl rfl rfl (decide_eq_true g72) (by kernel_rfl) (PQ.then (PQ.blk (PQ.then (PQ.then (PQ.blk (PQ.blk (PQ.then (PQ.then (PQ.blk (PQ.then PQ.body)))))))))) rfl (fun w hs => run_indexAddr (q := adr u.pt.a ((k - 1) * 2)) Tryz.underlying66 Ty.sz103 rfl rfl (by omega) (by omega) ((hs.2.1).2.1 (by omega)) (by rw [show ((k : Int) - 1).toNat = k - 1 by omega])) ?_
          refine WD.pureOn (i := 24) r15chk_spec_t14 (bt 29 33554431) rfl rfl rfl (decide_eq_true g72) (by kernel_rfl) (PQ.then (PQ.blk (PQ.then (PQ.then (PQ.blk (PQ.blk (PQ.then (PQ.then (PQ.blk (PQ.then PQ.body)))))))))) rfl (fun w => run_fieldAddr (q := (adr u.pt.a ((k - 1) * 2 + 0))) (show fieldB Tryz.prog 103 0 = some 0 from by kernel_rfl) rfl (adr_add _ (by assumption) _ _)) ?_
          refine WD.takeOn (i := 25) r15chk_spec_t14 (bt 29 67108863) s24 rfl rfl rfl (decide_eq_true g72) (by kernel_rfl) (PQ.then (PQ.blk (PQ.then (PQ.then (PQ.blk (PQ.blk (PQ.then (PQ.then (PQ.blk (PQ.then PQ.body)))))))))) rfl (fun w hs => run_load Ty.ag2 rfl ((hs.2.1).cell ((flat_get ptc_len hpq1 (j := 0) (by decide)).trans rfl))) ?_
          refine WD.pureOn (i := 26) r15chk_spec_t14 (bt 29 134217727) rfl rfl rfl (decide_eq_true g72) (by kernel_rfl) (PQ.then (PQ.blk (PQ.then (PQ.then (PQ.blk (PQ.blk (PQ.then (PQ.then (PQ.blk (PQ.then PQ.body)))))))))) rfl (fun w => run_leq rfl rfl) ?_
          refine WD.pureOn (i := 27) r15chk_spec_t14 (bt 29 268435455) rfl rfl rfl (decide_eq_false g69) (by kernel_rfl) (PQ.then (PQ.blk (PQ.then (PQ.then (PQ.blk (PQ.blk (PQ.then (PQ.then (PQ.blk (PQ.then PQ.body)))))))))) rfl (fun w => run_pickT rfl (decide_eq_true g72) rfl) ?_
          refine WD.pure (i := 28) r15chk_spec_t14 (bt 29 536870911) rfl rfl rfl (by kernel_rfl) (PQ.then (PQ.blk (PQ.then (PQ.then (PQ.blk (PQ.blk (PQ.then (PQ.then (PQ.blk (PQ.then PQ.body)))))))))) rfl (fun w => run_pickF rfl (decide_eq_false g69) rfl) ?_
          refine WD.done r15chk_spec_t14 (by kernel_rfl) ?_
          refine NX.go ?_
          refine WP.condP rfl (fun g88 => ?_) (fun g88 => ?_)
          ·
           refine WP.seq (WP.region rfl ?_)
           refine WO.asg rfl rfl ?_
           refine WO.nil (NX.go (WP.ret (NX.blkRet (NX.thenRet (NX.thenRet (NX.blkRet (NX.blkRet (NX.thenRet (NX.thenRet (NX.blkRet (NX.thenRet ?_)))))))))))
           refine NX.done (l := [.tmp 2]) rfl rfl ?_
           have hnb : ¬ (b1.first < 1 ∨ 99999999 < b1.to ∨ b1.to < b1.first) := by omega
           have hpb : ptsOk u.last none u.pt.l = false := by rw [← hpgo, drop_cons hp, ptsOk, show (!(decide (u.last < p.t) || tmV pp p)) = false by rw [hpq pq (by omega) hpq1]; simp [tmV, g88], Bool.false_and]
           exact ⟨congrArg (Value.int .i64) (checkB_rows hnb (by decide) (by rw [← hgo, drop_cons hu, rowsGo_pts hck hcm hpb])).symm, hS23.drop.drop.drop.drop.drop.drop.drop⟩
          ·
           refine WP.skip (NX.blk (NX.go ?_))
           have hpk : (!(decide (u.last < p.t) || tmV pp p)) = true := by rw [hpq pq (by omega) hpq1]; simp [tmV]; omega
           refine WP.region rfl ?_
           refine WO.mv rfl rfl ?_
           refine WO.val (run_add rfl rfl (IntWalk.i64_in _ (by omega))) rfl rfl rfl ?_
           refine WO.asg rfl rfl ?_
           refine WO.nil ?_
           exact NX.again (k + 1, some p) ⟨⟨by omega, fun h => by omega, fun q _ h => by rw [Nat.add_sub_cancel, hp] at h; cases h; rfl, by rw [← hpgo, drop_cons hp, ptsOk, hpk]; rfl⟩, hS23⟩ (by show u.pt.l.length - (k + 1) < u.pt.l.length - k; omega) (Sub.cons rfl (Sub.cons rfl (Sub.cons rfl (Sub.cons rfl (Sub.consE rfl (by congr 1) (Sub.nil _))))))
         ·
          refine WD.off (i := 13) r15chk_spec_t14 (bt 29 16383) rfl rfl rfl (decide_eq_false g72) (by kernel_rfl) (PQ.then (PQ.blk (PQ.then (PQ.then (PQ.blk (PQ.blk (PQ.then (PQ.then (PQ.blk (PQ.then PQ.body)))))))))) rfl ?_
          refine WD.off (i := 14) r15chk_spec_t14 (bt 29 32767) rfl rfl rfl (decide_eq_false g72) (by kernel_rfl) (PQ.then (PQ.blk (PQ.then (PQ.then (PQ.blk (PQ.blk (PQ.then (PQ.then (PQ.blk (PQ.then PQ.body)))))))))) rfl ?_
          refine WD.off (i := 15) r15chk_spec_t14 (bt 29 65535) rfl rfl rfl (decide_eq_false g72) (by kernel_rfl) (PQ.then (PQ.blk (PQ.then (PQ.then (PQ.blk (PQ.blk (PQ.then (PQ.then (PQ.blk (PQ.then PQ.body)))))))))) rfl ?_
          refine WD.off (i := 16) r15chk_spec_t14 (bt 29 131071) rfl rfl rfl (decide_eq_false g72) (by kernel_rfl) (PQ.then (PQ.blk (PQ.then (PQ.then (PQ.blk (PQ.blk (PQ.then (PQ.then (PQ.blk (PQ.then PQ.body)))))))))) rfl ?_
          refine WD.off (i := 17) r15chk_spec_t14 (bt 29 262143) rfl rfl rfl (decide_eq_false g72) (by kernel_rfl) (PQ.then (PQ.blk (PQ.then (PQ.then (PQ.blk (PQ.blk (PQ.then (PQ.then (PQ.blk (PQ.then PQ.body)))))))))) rfl ?_
          refine WD.off (i := 18) r15chk_spec_t14 (bt 29 524287) rfl rfl rfl (decide_eq_false g72) (by kernel_rfl) (PQ.then (PQ.blk (PQ.then (PQ.then (PQ.blk (PQ.blk (PQ.then (PQ.then (PQ.blk (PQ.then PQ.body)))))))))) rfl ?_
          refine WD.off (i := 19) r15chk_spec_t14 (bt 29 1048575) rfl rfl rfl (decide_eq_false g72) (by kernel_rfl) (PQ.then (PQ.blk (PQ.then (PQ.then (PQ.blk (PQ.blk (PQ.then (PQ.then (PQ.blk (PQ.then PQ.body)))))))))) rfl ?_
          refine WD.off (i := 20) r15chk_spec_t14 (bt 29 2097151) rfl rfl rfl (decide_eq_false g72) (by kernel_rfl) (PQ.then (PQ.blk (PQ.then (PQ.then (PQ.blk (PQ.blk (PQ.then (PQ.then (PQ.blk (PQ.then PQ.body)))))))))) rfl ?_
          refine WD.off (i := 21) r15chk_spec_t14 (bt 29 4194303) rfl rfl rfl (decide_eq_false g72) (by kernel_rfl) (PQ.then (PQ.blk (PQ.then (PQ.then (PQ.blk (PQ.blk (PQ.then (PQ.then (PQ.blk (PQ.then PQ.body)))))))))) rfl ?_
          refine WD.off (i := 22) r15chk_spec_t14 (bt 29 8388607) rfl rfl rfl (decide_eq_false g72) (by kernel_rfl) (PQ.then (PQ.blk (PQ.then (PQ.then (PQ.blk (PQ.blk (PQ.then (PQ.then (PQ.blk (PQ.then PQ.body)))))))))) rfl ?_
          refine WD.off (i := 23) r15chk_spec_t14 (bt 29 16777215) rfl rfl rfl (decide_eq_false g72) (by kernel_rfl) (PQ.then (PQ.blk (PQ.then (PQ.then (PQ.blk (PQ.blk (PQ.then (PQ.then (PQ.blk (PQ.then PQ.body)))))))))) rfl ?_
          refine WD.off (i := 24) r15chk_spec_t14 (bt 29 33554431) rfl rfl rfl (decide_eq_false g72) (by kernel_rfl) (PQ.then (PQ.blk (PQ.then (PQ.then (PQ.blk (PQ.blk (PQ.then (PQ.then (PQ.blk (PQ.then PQ.body)))))))))) rfl ?_
          refine WD.off (i := 25) r15chk_spec_t14 (bt 29 67108863) rfl rfl rfl (decide_eq_false g72) (by kernel_rfl) (PQ.then (PQ.blk (PQ.then (PQ.then (PQ.blk (PQ.blk (PQ.then (PQ.then (PQ.blk (PQ.then PQ.body)))))))))) rfl ?_
          refine WD.off (i := 26) r15chk_spec_t14 (bt 29 134217727) rfl rfl rfl (decide_eq_false g72) (by kernel_rfl) (PQ.then (PQ.blk (PQ.then (PQ.then (PQ.blk (PQ.blk (PQ.then (PQ.then (PQ.blk (PQ.then PQ.body)))))))))) rfl ?_
          refine WD.pureOn (i := 27) r15chk_spec_t14 (bt 29 268435455) rfl rfl rfl (decide_eq_false g69) (by kernel_rfl) (PQ.then (PQ.blk (PQ.then (PQ.then (PQ.blk (PQ.blk (PQ.then (PQ.then (PQ.blk (PQ.then PQ.body)))))))))) rfl (fun w => run_pickF rfl (decide_eq_false g72) rfl) ?_
          refine WD.pure (i := 28) r15chk_spec_t14 (bt 29 536870911) rfl rfl rfl (by kernel_rfl) (PQ.then (PQ.blk (PQ.then (PQ.then (PQ.blk (PQ.blk (PQ.then (PQ.then (PQ.blk (PQ.then PQ.body)))))))))) rfl (fun w => run_pickF rfl (decide_eq_false g69) rfl) ?_
          refine WD.done r15chk_spec_t14 (by kernel_rfl) ?_
          refine NX.go ?_
          refine WP.condF rfl rfl ?_
          refine WP.skip (NX.blk (NX.go ?_))
          have hpk : (!(decide (u.last < p.t) || tmV pp p)) = true := by rw [hpz (by omega)]; simp [tmV]; omega
          refine WP.region rfl ?_
          refine WO.mv rfl rfl ?_
          refine WO.val (run_add rfl rfl (IntWalk.i64_in _ (by omega))) rfl rfl rfl ?_
          refine WO.asg rfl rfl ?_
          refine WO.nil ?_
          exact NX.again (k + 1, some p) ⟨⟨by omega, fun h => by omega, fun q _ h => by rw [Nat.add_sub_cancel, hp] at h; cases h; rfl, by rw [← hpgo, drop_cons hp, ptsOk, hpk]; rfl⟩, hS23⟩ (by show u.pt.l.length - (k + 1) < u.pt.l.length - k; omega) (Sub.cons rfl (Sub.cons rfl (Sub.cons rfl (Sub.cons rfl (Sub.consE rfl (by congr 1) (Sub.nil _))))))
       ·
        refine WP.exit (NX.thenExit (NX.thenExit ?_))
        refine NX.blkExit ?_
        refine NX.blk (NX.go (WP.region rfl ?_))
        refine WO.mv rfl rfl ?_
        refine WO.val (run_add rfl rfl (IntWalk.i64_in _ (by omega))) rfl rfl rfl ?_
        refine WO.asg rfl rfl ?_
        refine WO.nil ?_
        exact NX.again (i + 1, some u) ⟨⟨by omega, fun h => by omega, fun q _ h => by rw [Nat.add_sub_cancel, hu] at h; cases h; rfl, by rw [← hgo, drop_cons hu, rowsGo_go hck hcm (by rw [← hpgo, List.drop_of_length_le (by omega)]; rfl)]⟩, hS22.drop.drop⟩ (by show b1.rs.l.length - (i + 1) < b1.rs.l.length - i; omega) (Sub.cons rfl (Sub.cons rfl (Sub.consE rfl (by congr 1) (Sub.nil _))))
    ·
     refine WP.exit (NX.thenExit (NX.thenExit ?_))
     refine NX.blkExit ?_
     refine NX.go (WP.seq (WP.seq (WP.region rfl ?_)))
     refine WO.asg rfl rfl ?_
     refine WO.nil (NX.go (WP.block ?_))
     have hS25 : St B (cel g2 [Value.int .i64 b1.first, Value.int .i64 b1.to, Value.slice b1.rs.a b1.rs.l.length b1.rs.cap, Value.slice b1.ds.a b1.ds.l.length b1.ds.cap] 51 :: (dsA b1.ds) :: allA recA b1.ds.l :: (rsA b1.rs) :: allA mrA b1.rs.l :: blA b1 :: L) w4 := (hS4.permT [0, 2, 2, 0, 0, 0] (L' := cel g2 [Value.int .i64 b1.first, Value.int .i64 b1.to, Value.slice b1.rs.a b1.rs.l.length b1.rs.cap, Value.slice b1.ds.a b1.ds.l.length b1.ds.cap] 51 :: (dsA b1.ds) :: allA recA b1.ds.l :: (rsA b1.rs) :: allA mrA b1.rs.l :: blA b1 :: L) rfl)
     clear hS4
     refine WP.loop (α := Nat) (fun x => match x with | j => [(1, Value.pointer (some ⟨g2, 0, none⟩)), (2, Value.int .i64 0), (6, Value.int .i64 (j : Int))]) (fun x w => match x with | j => (j ≤ b1.ds.l.length ∧ delsOk (b1.ds.l.drop j) = delsOk b1.ds.l) ∧ St B (cel g2 [Value.int .i64 b1.first, Value.int .i64 b1.to, Value.slice b1.rs.a b1.rs.l.length b1.rs.cap, Value.slice b1.ds.a b1.ds.l.length b1.ds.cap] 51 :: (dsA b1.ds) :: allA recA b1.ds.l :: (rsA b1.rs) :: allA mrA b1.rs.l :: blA b1 :: L) w) (fun x => match x with | j => b1.ds.l.length - j) 0 ⟨⟨Nat.zero_le _, rfl⟩, hS25⟩ (Sub.cons rfl (Sub.cons rfl (Sub.consE rfl (by first | rfl | first | rfl | (congr 1; omega) | (simp; done) | (simp; omega)) (Sub.nil _)))) ?_
     rintro j w26 ⟨⟨hj, hdgo⟩, hS26⟩
     clear hS25
     refine WP.seq (WP.seq (WP.region rfl ?_))
     refine WO.mv rfl rfl ?_
     refine WO.val (run_fieldAddr (q := ⟨g2, 3, none⟩) (show fieldB Tryz.prog 51 3 = some 3 from by kernel_rfl) rfl rfl) rfl rfl rfl ?_
     refine WO.val (run_load Ty.ag23 rfl ((hS26.cel_at 0 rfl 3).trans rfl)) rfl rfl rfl ?_
     refine WO.val (run_len rfl Tryz.underlying23 rfl) rfl rfl rfl ?_
     refine WO.val (run_lss rfl rfl) rfl rfl rfl ?_
     refine WO.nil (NX.go ?_)
     refine WP.condP rfl (fun g93 => ?_) (fun g93 => ?_)
     ·
      refine WP.skip (NX.go (WP.seq (WP.block (WP.seq ?_))))
      obtain ⟨d1, hd1⟩ : ∃ qq, b1.ds.l[j]? = some qq := ⟨_, List.getElem?_eq_getElem (by omega)⟩
      have hsd : b1.ds.a.isSome = true := rd_isSome ((rdH_rd (hS26.focus 1 rfl))) (by omega)
      refine WP.region rfl ?_
      refine WO.val (run_fieldAddr (q := ⟨g2, 3, none⟩) (show fieldB Tryz.prog 51 3 = some 3 from by kernel_rfl) rfl rfl) rfl rfl rfl ?_
      refine WO.val (run_load Ty.ag23 rfl ((hS26.cel_at 0 rfl 3).trans rfl)) rfl rfl rfl ?_
      refine WO.mv rfl rfl ?_
      refine WO.val (run_indexAddr (q := adr b1.ds.a (j * 5)) Tryz.underlying23 Ty.sz33 rfl rfl (by omega) (by omega) ((rdH_rd (hS26.focus 1 rfl)).2.1 (by omega)) rfl) rfl rfl rfl ?_
      refine WO.val (run_fieldAddr (q := (adr b1.ds.a (j * 5 + 0))) (show fieldB Tryz.prog 33 0 = some 0 from by kernel_rfl) rfl (adr_add _ (by assumption) _ _)) rfl rfl rfl ?_
      refine WO.val (run_load Ty.ag3 rfl ((rdH_rd (hS26.focus 1 rfl)).cell ((flat_get rcc_len hd1 (j := 0) (by decide)).trans rfl))) rfl rfl rfl ?_
      refine WO.val (run_neq rfl rfl) rfl rfl rfl ?_
      refine WO.mv rfl rfl ?_
      by_cases g103 : ¬ d1.k = 2
      ·
       refine WO.off rfl rfl (decide_eq_true g103) rfl ?_
       refine WO.off rfl rfl (decide_eq_true g103) rfl ?_
       refine WO.off rfl rfl (decide_eq_true g103) rfl ?_
       refine WO.off rfl rfl (decide_eq_true g103) rfl ?_
       refine WO.off rfl rfl (decide_eq_true g103) rfl ?_
       refine WO.off rfl rfl (decide_eq_true g103) rfl ?_
       refine WO.off rfl rfl (decide_eq_true g103) rfl ?_
       refine WO.val (run_pickT rfl (decide_eq_true g103) rfl) rfl rfl rfl ?_
       refine WO.nil (NX.go ?_)
       refine WP.condT rfl rfl ?_
       refine WP.seq (WP.region rfl ?_)
       refine WO.asg rfl rfl ?_
       refine WO.nil (NX.go (WP.ret (NX.blkRet (NX.thenRet (NX.thenRet (NX.blkRet (NX.thenRet ?_)))))))
       refine NX.done (l := [.tmp 2]) rfl rfl ?_
       have hnb : ¬ (b1.first < 1 ∨ 99999999 < b1.to ∨ b1.to < b1.first) := by omega
       have hr0 : rowsGo none b1.rs.l = 0 := by rw [← hgo, List.drop_of_length_le (by omega)]; rfl
       have hdb : delsOk b1.ds.l = false := by rw [← hdgo, drop_cons hd1]; simp [delsOk, g103]
       exact ⟨congrArg (Value.int .i64) (by rw [checkB_dels hnb hr0, hdb]; rfl), hS26.drop.drop.drop.drop.drop⟩
      ·
       refine WO.on rfl rfl (decide_eq_false g103) ?_
       refine WO.val (run_fieldAddr (q := ⟨g2, 3, none⟩) (show fieldB Tryz.prog 51 3 = some 3 from by kernel_rfl) rfl rfl) rfl rfl rfl ?_
       refine WO.on rfl rfl (decide_eq_false g103) ?_
       refine WO.val (run_load Ty.ag23 rfl ((hS26.cel_at 0 rfl 3).trans rfl)) rfl rfl rfl ?_
       refine WO.on rfl rfl (decide_eq_false g103) ?_
       refine WO.mv rfl rfl ?_
       refine WO.on rfl rfl (decide_eq_false g103) ?_
       refine WO.val (run_indexAddr (q := adr b1.ds.a (j * 5)) Tryz.underlying23 Ty.sz33 rfl rfl (by omega) (by omega) ((rdH_rd (hS26.focus 1 rfl)).2.1 (by omega)) rfl) rfl rfl rfl ?_
       refine WO.on rfl rfl (decide_eq_false g103) ?_
       refine WO.val (run_loadAgg (vs := [Value.int .i64 d1.k, Value.slice d1.ss.a d1.ss.l.length d1.ss.cap, Value.slice d1.ms.a d1.ms.l.length d1.ms.cap, Value.int .i64 d1.fr, Value.int .i64 d1.to]) Ty.ag33 Ty.sz33 rfl ((rdH_rd (hS26.focus 1 rfl)).cells (by rw [flat_len rcc_len]; omega) (flat_part rcc_len hd1)).1 ((rdH_rd (hS26.focus 1 rfl)).cells (by rw [flat_len rcc_len]; omega) (flat_part rcc_len hd1)).2) rfl rfl rfl ?_
       refine WO.on rfl rfl (decide_eq_false g103) ?_
       have hS27 := allA_get recA_pers (List.mem_of_getElem? hd1) (hS26.permT [2, 0, 0] (L' := allA recA b1.ds.l :: cel g2 [Value.int .i64 b1.first, Value.int .i64 b1.to, Value.slice b1.rs.a b1.rs.l.length b1.rs.cap, Value.slice b1.ds.a b1.ds.l.length b1.ds.cap] 51 :: (dsA b1.ds) :: (rsA b1.rs) :: allA mrA b1.rs.l :: blA b1 :: L) rfl)
       clear hS26
       refine WO.call rfl rfl Ty.hd15 rfl (r12chk_spec d1 (hz.d d1 (List.mem_of_getElem? hd1)) hS27) (fun v29 w28 pv29 => ?_)
       obtain ⟨rfl, hS28⟩ := pv29
       clear hS27
       refine WO.on rfl rfl (decide_eq_false g103) ?_
       refine WO.val (run_neq rfl rfl) rfl rfl rfl ?_
       refine WO.val (run_pickF rfl (decide_eq_false g103) rfl) rfl rfl rfl ?_
       refine WO.nil (NX.go ?_)
       refine WP.condP rfl (fun g111 => ?_) (fun g111 => ?_)
       ·
        refine WP.seq (WP.region rfl ?_)
        refine WO.asg rfl rfl ?_
        refine WO.nil (NX.go (WP.ret (NX.blkRet (NX.thenRet (NX.thenRet (NX.blkRet (NX.thenRet ?_)))))))
        refine NX.done (l := [.tmp 2]) rfl rfl ?_
        have hnb : ¬ (b1.first < 1 ∨ 99999999 < b1.to ∨ b1.to < b1.first) := by omega
        have hr0 : rowsGo none b1.rs.l = 0 := by rw [← hgo, List.drop_of_length_le (by omega)]; rfl
        have hdb : delsOk b1.ds.l = false := by rw [← hdgo, drop_cons hd1]; simp [delsOk, g103, g111]
        exact ⟨congrArg (Value.int .i64) (by rw [checkB_dels hnb hr0, hdb]; rfl), hS28.drop.drop.drop.drop.drop.drop⟩
       ·
        refine WP.skip (NX.blk (NX.go (WP.region rfl ?_)))
        refine WO.mv rfl rfl ?_
        refine WO.val (run_add rfl rfl (IntWalk.i64_in _ (by omega))) rfl rfl rfl ?_
        refine WO.asg rfl rfl ?_
        refine WO.nil ?_
        exact NX.again (j + 1) ⟨⟨by omega, by rw [← hdgo, drop_cons hd1]; simp [delsOk, g103, g111] <;> intros <;> omega⟩, (hS28.permT [0, 1, 1, 0] (L' := recA d1 :: cel g2 [Value.int .i64 b1.first, Value.int .i64 b1.to, Value.slice b1.rs.a b1.rs.l.length b1.rs.cap, Value.slice b1.ds.a b1.ds.l.length b1.ds.cap] 51 :: (dsA b1.ds) :: allA recA b1.ds.l :: (rsA b1.rs) :: allA mrA b1.rs.l :: blA b1 :: L) rfl).drop⟩ (by show b1.ds.l.length - (j + 1) < b1.ds.l.length - j; omega) (Sub.cons rfl (Sub.cons rfl (Sub.consE rfl (by congr 1) (Sub.nil _))))
     ·
      refine WP.exit (NX.thenExit (NX.thenExit ?_))
      refine NX.blkExit ?_
      refine NX.go (WP.seq (WP.region rfl ?_))
      refine WO.asg rfl rfl ?_
      refine WO.nil (NX.go (WP.ret ?_))
      refine NX.done (l := [.tmp 2]) rfl rfl ?_
      have hnb : ¬ (b1.first < 1 ∨ 99999999 < b1.to ∨ b1.to < b1.first) := by omega
      have hr0 : rowsGo none b1.rs.l = 0 := by rw [← hgo, List.drop_of_length_le (by omega)]; rfl
      exact ⟨congrArg (Value.int .i64) (by rw [checkB_dels hnb hr0, ← hdgo, List.drop_of_length_le (by omega)]; rfl), hS26.drop.drop.drop.drop.drop⟩
end Go.Proofs.YtidoidoelgfnaaaGreatDoor.SL

/- Greatest times: the reference; the program's blocks. -/
namespace Go.Proofs.YtidoidoelgfnaaaGreatDoor.SL
open Go.RowKit Go.Proofs.YtidoidoelgfnaaaGreatDoor
open Go.Proofs.YtidoidoelgfnaaaGreatDoorW.PrintLast (rtab opsOf)
set_option linter.unusedVariables false
set_option linter.unusedSimpArgs false

def rowsL : List RowP → List RowP → List RowP
  | [], S => S
  | r :: l, S => rowsL l (addF S r.lb r.last [])
def lastsA : List BlkP → List RowP → List RowP
  | [], S => S
  | b :: l, S => lastsA l (rowsL b.rows S)
theorem rd_nil2 {w : World} : Rd w none 0 2 [] := ⟨by simp, fun h => by omega, fun j hj => by omega⟩
theorem rlasts_spec {B w : World} {L : List HP} {X : HP} {a : Option Addr} {cap : Nat} {bs cs : List BlkV} (hX : ∀ {L : List HP} {w : World}, St B (X :: L) w → Rd w a bs.length 4 (bs.flatMap blc)) (hsub : ∀ b ∈ bs, b ∈ cs) (hbz : ∀ b ∈ bs, MzB b) (hbn : bs.length ≤ 1099511627776) (hrt : rtot bs ≤ 1099511627776) (hS : St B (X :: allA blA cs :: L) w) : Does Tryz.prog 28 [Value.slice a bs.length cap] w (fun v w1 => ∃ a1 c1, ∃ S1 : List MRow, v = .slice a1 S1.length c1 ∧ S1.map MRow.p = lastsA (bs.map BlkV.p) [] ∧ S1.length ≤ 1099511627776 ∧ (∀ r ∈ S1, r.lb.l.length ≤ 4398046511104) ∧ St B (own a1 S1.length c1 99 3 (S1.flatMap mrc) :: allA mrA S1 :: X :: allA blA cs :: L) w1) := by
 refine enter (n := 33) Tryz.func28 rfl rfl [Value.slice a bs.length cap] rfl ?_
 refine WP.seq (WP.region rfl ?_)
 refine WO.asg rfl rfl ?_
 refine WO.nil (NX.go (WP.seq (WP.region rfl ?_)))
 refine WO.asg rfl rfl ?_
 refine WO.nil (NX.go (WP.seq (WP.seq (WP.region rfl ?_))))
 refine WO.asg rfl rfl ?_
 refine WO.nil (NX.go (WP.block ?_))
 replace hS := (St.addPure trivial hS : St B (allA mrA [] :: X :: allA blA cs :: L) w)
 replace hS := hS.own_nil 99 3
 refine WP.loop (α := Nat × List MRow × Option Addr × Nat) (fun x => match x with | ⟨i, S, oa, oc⟩ => [(0, Value.slice a bs.length cap), (3, Value.slice oa S.length oc), (4, Value.int .i64 (i : Int))]) (fun x w => match x with | ⟨i, S, oa, oc⟩ => (i ≤ bs.length ∧ lastsA ((bs.drop i).map BlkV.p) (S.map MRow.p) = lastsA (bs.map BlkV.p) [] ∧ (∀ r ∈ S, r.lb.l.length ≤ 4398046511104) ∧ (∀ r ∈ S, r.pt.l.length ≤ 0) ∧ S.length + rtot (bs.drop i) ≤ 1099511627776) ∧ St B (own oa S.length oc 99 3 (S.flatMap mrc) :: allA mrA S :: X :: allA blA cs :: L) w) (fun x => match x with | ⟨i, S, oa, oc⟩ => bs.length - i) (0, [], none, 0) ⟨⟨Nat.zero_le _, rfl, (fun r h => by cases h), (fun r h => by cases h), (by simpa using hrt)⟩, hS⟩ (Sub.cons rfl (Sub.consE rfl (by first | rfl | first | rfl | (congr 1; omega) | (simp; done) | (simp; omega)) (Sub.consE rfl (by first | rfl | first | rfl | (congr 1; omega) | (simp; done) | (simp; omega)) (Sub.nil _)))) ?_
 rintro ⟨i, S, oa, oc⟩ w1 ⟨⟨hi, hgo, hlb, hM, hSn⟩, hS1⟩
 clear hS
 refine WP.seq (WP.seq (WP.region rfl ?_))
 refine WO.mv rfl rfl ?_
 refine WO.mv rfl rfl ?_
 refine WO.val (run_len rfl Tryz.underlying22 rfl) rfl rfl rfl ?_
 refine WO.val (run_lss rfl rfl) rfl rfl rfl ?_
 refine WO.nil (NX.go ?_)
 refine WP.condP rfl (fun g9 => ?_) (fun g9 => ?_)
 ·
  refine WP.skip (NX.go (WP.seq (WP.block (WP.seq ?_))))
  obtain ⟨b1, hbl⟩ : ∃ qq, bs[i]? = some qq := ⟨_, List.getElem?_eq_getElem (by omega)⟩
  have hS2 := blA_get (hsub b1 (List.mem_of_getElem? hbl)) (hS1.permT [3, 0, 0, 0] (L' := allA blA cs :: own oa S.length oc 99 3 (S.flatMap mrc) :: allA mrA S :: X :: L) rfl)
  clear hS1
  have hS3 : St B ((rsA b1.rs) :: allA mrA b1.rs.l :: allA blA cs :: own oa S.length oc 99 3 (S.flatMap mrc) :: allA mrA S :: X :: L) w1 := (hS2.permT [2, 2, 0, 0, 0, 0, 0, 0] (L' := (dsA b1.ds) :: allA recA b1.ds.l :: (rsA b1.rs) :: allA mrA b1.rs.l :: allA blA cs :: own oa S.length oc 99 3 (S.flatMap mrc) :: allA mrA S :: X :: L) rfl).drop.drop
  clear hS2
  have hbz1 := hbz b1 (List.mem_of_getElem? hbl)
  have hbr1 := hbz1.nr
  obtain ⟨S0, hS0⟩ : ∃ qq, S.map MRow.p = qq := ⟨_, rfl⟩
  rw [hS0] at hgo
  refine WP.region rfl ?_
  refine WO.asg rfl rfl ?_
  refine WO.nil (NX.go (WP.block ?_))
  refine WP.loop (α := Nat × List MRow × Option Addr × Nat) (fun x => match x with | ⟨k, S, oa, oc⟩ => [(0, Value.slice a bs.length cap), (3, Value.slice oa S.length oc), (4, Value.int .i64 (i : Int)), (5, Value.int .i64 (k : Int))]) (fun x w => match x with | ⟨k, S, oa, oc⟩ => (k ≤ b1.rs.l.length ∧ rowsL ((b1.rs.l.drop k).map MRow.p) (S.map MRow.p) = rowsL (b1.rs.l.map MRow.p) S0 ∧ (∀ r ∈ S, r.lb.l.length ≤ 4398046511104) ∧ (∀ r ∈ S, r.pt.l.length ≤ 0) ∧ S.length + (b1.rs.l.length - k + rtot (bs.drop (i + 1))) ≤ 1099511627776) ∧ St B (own oa S.length oc 99 3 (S.flatMap mrc) :: allA mrA S :: (rsA b1.rs) :: allA mrA b1.rs.l :: X :: allA blA cs :: L) w) (fun x => match x with | ⟨k, S, oa, oc⟩ => b1.rs.l.length - k) (0, S, oa, oc) ⟨⟨Nat.zero_le _, by rw [List.drop_zero, hS0], hlb, hM, by rw [drop_cons hbl] at hSn; simp only [rtot] at hSn; simp only [Nat.sub_zero]; omega⟩, (hS3.permT [3, 3, 0, 0, 1, 0] (L' := own oa S.length oc 99 3 (S.flatMap mrc) :: allA mrA S :: (rsA b1.rs) :: allA mrA b1.rs.l :: X :: allA blA cs :: L) rfl)⟩ (Sub.cons rfl (Sub.cons rfl (Sub.cons rfl (Sub.consE rfl (by first | rfl | first | rfl | (congr 1; omega) | (simp; done) | (simp; omega)) (Sub.nil _))))) ?_
  rintro ⟨k, S, oa, oc⟩ w4 ⟨⟨hk4, hgo4, hlb, hM, hSn4⟩, hS4⟩
  clear hS3
  refine WP.seq (WP.seq ?_)
  have hsa : a.isSome = true := rd_isSome ((hX (hS4.focus 4 rfl))) (by omega)
  refine WP.region rfl ?_
  refine WO.mv rfl rfl ?_
  refine WO.mv rfl rfl ?_
  refine WO.mv rfl rfl ?_
  refine WO.val (run_indexAddr (q := adr a (i * 4)) Tryz.underlying22 Ty.sz51 rfl rfl (by omega) (by omega) ((hX (hS4.focus 4 rfl)).2.1 (by omega)) rfl) rfl rfl rfl ?_
  refine WO.val (run_fieldAddr (q := (adr a (i * 4 + 2))) (show fieldB Tryz.prog 51 2 = some 2 from by kernel_rfl) rfl (adr_add _ (by assumption) _ _)) rfl rfl rfl ?_
  refine WO.val (run_load Ty.ag49 rfl ((hX (hS4.focus 4 rfl)).cell ((flat_get blc_len hbl (j := 2) (by decide)).trans rfl))) rfl rfl rfl ?_
  refine WO.val (run_len rfl Tryz.underlying49 rfl) rfl rfl rfl ?_
  refine WO.val (run_lss rfl rfl) rfl rfl rfl ?_
  refine WO.nil (NX.go ?_)
  refine WP.condP rfl (fun g19 => ?_) (fun g19 => ?_)
  ·
   refine WP.skip (NX.go (WP.seq (WP.block ?_)))
   obtain ⟨u, hu⟩ : ∃ qq, b1.rs.l[k]? = some qq := ⟨_, List.getElem?_eq_getElem (by omega)⟩
   refine WP.region rfl ?_
   refine WO.mv rfl rfl ?_
   refine WO.mv rfl rfl ?_
   refine WO.mv rfl rfl ?_
   refine WO.val (run_indexAddr (q := adr a (i * 4)) Tryz.underlying22 Ty.sz51 rfl rfl (by omega) (by omega) ((hX (hS4.focus 4 rfl)).2.1 (by omega)) rfl) rfl rfl rfl ?_
   refine WO.val (run_fieldAddr (q := (adr a (i * 4 + 2))) (show fieldB Tryz.prog 51 2 = some 2 from by kernel_rfl) rfl (adr_add _ (by assumption) _ _)) rfl rfl rfl ?_
   refine WO.val (run_load Ty.ag49 rfl ((hX (hS4.focus 4 rfl)).cell ((flat_get blc_len hbl (j := 2) (by decide)).trans rfl))) rfl rfl rfl ?_
   refine WO.mv rfl rfl ?_
   refine WO.val (run_indexAddr (q := adr b1.rs.a (k * 3)) Tryz.underlying49 Ty.sz99 rfl rfl (by omega) (by omega) ((rdH_rd (hS4.focus 2 rfl)).2.1 (by omega)) rfl) rfl rfl rfl ?_
   refine WO.val (run_loadAgg (vs := [Value.slice u.lb.a u.lb.l.length u.lb.cap, Value.int .i64 u.last, Value.slice u.pt.a u.pt.l.length u.pt.cap]) Ty.ag99 Ty.sz99 rfl ((rdH_rd (hS4.focus 2 rfl)).cells (by rw [flat_len mrc_len]; omega) (flat_part mrc_len hu)).1 ((rdH_rd (hS4.focus 2 rfl)).cells (by rw [flat_len mrc_len]; omega) (flat_part mrc_len hu)).2) rfl rfl rfl ?_
   have hS5 : St B (.pure True :: own oa S.length oc 99 3 (S.flatMap mrc) :: allA mrA S :: (rsA b1.rs) :: allA mrA b1.rs.l :: X :: allA blA cs :: L) w4 := hS4.addPure trivial
   clear hS4
   have hS6 := mrA_get (List.mem_of_getElem? hu) (hS5.permT [4, 0, 0, 0, 0, 0, 0] (L' := allA mrA b1.rs.l :: .pure True :: own oa S.length oc 99 3 (S.flatMap mrc) :: allA mrA S :: (rsA b1.rs) :: X :: allA blA cs :: L) rfl)
   clear hS5
   have hS7 := hS6.permT [4, 4, 0, 2, 0, 0, 0, 0, 0] (L' := own oa S.length oc 99 3 (S.flatMap mrc) :: allA mrA S :: (labA u.lb) :: .pure True :: (ptsA u.pt) :: allA mrA b1.rs.l :: (rsA b1.rs) :: X :: allA blA cs :: L) rfl
   clear hS6
   refine WO.call rfl rfl Ty.hd62 rfl (radd_spec (Y := .pure True) (b := none) (cap2 := 0) (ps := []) (M := 0) (fun _ => rd_nil2) u (by omega) hlb (hbz1.r u (List.mem_of_getElem? hu)).1 hM (by decide) hS7) (fun v9 w8 pv9 => ?_)
   obtain ⟨a2, c2, S2, rfl, hS2, hn2, hlb2, hM2, hS8⟩ := pv9
   clear hS7
   refine WO.asg rfl rfl ?_
   refine WO.nil (NX.blk (NX.go (WP.region rfl ?_)))
   refine WO.mv rfl rfl ?_
   refine WO.val (run_add rfl rfl (IntWalk.i64_in _ (by omega))) rfl rfl rfl ?_
   refine WO.asg rfl rfl ?_
   refine WO.nil ?_
   exact NX.again (k + 1, S2, a2, c2) ⟨⟨by omega, by rw [drop_cons hu, List.map_cons, rowsL] at hgo4; rw [hS2]; exact hgo4, hlb2, hM2, by omega⟩, (hS8.permT [2, 2, 2, 0, 0, 1, 0, 0, 0] (L' := (labA u.lb) :: .pure True :: (ptsA u.pt) :: own a2 S2.length c2 99 3 (S2.flatMap mrc) :: allA mrA S2 :: (rsA b1.rs) :: allA mrA b1.rs.l :: X :: allA blA cs :: L) rfl).drop.drop.drop⟩ (by show b1.rs.l.length - (k + 1) < b1.rs.l.length - k; omega) (Sub.cons rfl (Sub.consE rfl (by first | rfl | (congr 1; omega) | (simp; done) | (simp; omega)) (Sub.cons rfl (Sub.consE rfl (by congr 1) (Sub.nil _)))))
  ·
   refine WP.exit (NX.thenExit (NX.thenExit ?_))
   refine NX.blkExit ?_
   refine NX.blk (NX.go (WP.region rfl ?_))
   refine WO.mv rfl rfl ?_
   refine WO.val (run_add rfl rfl (IntWalk.i64_in _ (by omega))) rfl rfl rfl ?_
   refine WO.asg rfl rfl ?_
   refine WO.nil ?_
   exact NX.again (i + 1, S, oa, oc) ⟨⟨by omega, by rw [List.drop_of_length_le (by omega)] at hgo4; rw [drop_cons hbl] at hgo; rw [← hgo, List.map_cons, lastsA, show b1.p.rows = b1.rs.l.map MRow.p from rfl, ← hgo4]; rfl, hlb, hM, by omega⟩, (hS4.permT [2, 2, 0, 0, 0, 0] (L' := (rsA b1.rs) :: allA mrA b1.rs.l :: own oa S.length oc 99 3 (S.flatMap mrc) :: allA mrA S :: X :: allA blA cs :: L) rfl).drop.drop⟩ (by show bs.length - (i + 1) < bs.length - i; omega) (Sub.cons rfl (Sub.consE rfl (by first | rfl | (congr 1; omega) | (simp; done) | (simp; omega)) (Sub.consE rfl (by congr 1) (Sub.nil _))))
 ·
  refine WP.exit (NX.thenExit (NX.thenExit ?_))
  refine NX.blkExit ?_
  refine NX.go (WP.seq (WP.region rfl ?_))
  refine WO.mv rfl rfl ?_
  refine WO.asg rfl rfl ?_
  refine WO.nil (NX.go (WP.ret ?_))
  refine NX.done (l := [.tmp 2]) rfl rfl ?_
  exact ⟨oa, oc, S, rfl, by rw [← hgo, List.drop_of_length_le (by omega)]; rfl, by omega, hlb, hS1⟩
theorem to16_spec {B w : World} {L : List HP} {X : HP} {a : Option Addr} {cap : Nat} {bs : List BlkV} (hX : ∀ {L : List HP} {w : World}, St B (X :: L) w → Rd w a bs.length 4 (bs.flatMap blc)) (hbz : ∀ b ∈ bs, MzB b) (hbn : bs.length ≤ 1099511627776) (hS : St B (X :: allA blA bs :: L) w) : Does Tryz.prog 19 [Value.slice a bs.length cap] w (fun v w1 => ∃ a1 k1, ∃ Cs : List BlkV, v = .slice a1 Cs.length k1 ∧ Cs.map BlkV.p = bs.map BlkV.p ∧ St B (own a1 Cs.length k1 46 4 (Cs.flatMap blc) :: allA blA Cs :: X :: allA blA bs :: L) w1) := by
 refine enter (n := 20) Tryz.func19 rfl rfl [Value.slice a bs.length cap] rfl ?_
 refine WP.seq (WP.region rfl ?_)
 refine WO.asg rfl rfl ?_
 refine WO.nil (NX.go (WP.seq (WP.region rfl ?_)))
 refine WO.asg rfl rfl ?_
 refine WO.nil (NX.go (WP.seq (WP.seq (WP.region rfl ?_))))
 refine WO.asg rfl rfl ?_
 refine WO.nil (NX.go (WP.block ?_))
 replace hS := (St.addPure trivial hS : St B (allA blA [] :: X :: allA blA bs :: L) w)
 replace hS := hS.own_nil 46 4
 refine WP.loop (α := Nat × List BlkV × Option Addr × Nat) (fun x => match x with | ⟨i, Cs, oa, oc⟩ => [(0, Value.slice a bs.length cap), (3, Value.slice oa Cs.length oc), (4, Value.int .i64 (i : Int))]) (fun x w => match x with | ⟨i, Cs, oa, oc⟩ => (i ≤ bs.length ∧ Cs.map BlkV.p = (bs.take i).map BlkV.p ∧ Cs.length = i) ∧ St B (own oa Cs.length oc 46 4 (Cs.flatMap blc) :: allA blA Cs :: X :: allA blA bs :: L) w) (fun x => match x with | ⟨i, Cs, oa, oc⟩ => bs.length - i) (0, [], none, 0) ⟨⟨Nat.zero_le _, rfl, rfl⟩, hS⟩ (Sub.cons rfl (Sub.consE rfl (by first | rfl | first | rfl | (congr 1; omega) | (simp; done) | (simp; omega)) (Sub.consE rfl (by first | rfl | first | rfl | (congr 1; omega) | (simp; done) | (simp; omega)) (Sub.nil _)))) ?_
 rintro ⟨i, Cs, oa, oc⟩ w1 ⟨⟨hi, hCs, hCn⟩, hS1⟩
 clear hS
 refine WP.seq (WP.seq (WP.region rfl ?_))
 refine WO.mv rfl rfl ?_
 refine WO.mv rfl rfl ?_
 refine WO.val (run_len rfl Tryz.underlying22 rfl) rfl rfl rfl ?_
 refine WO.val (run_lss rfl rfl) rfl rfl rfl ?_
 refine WO.nil (NX.go ?_)
 refine WP.condP rfl (fun g8 => ?_) (fun g8 => ?_)
 ·
  refine WP.skip (NX.go (WP.seq (WP.block ?_)))
  obtain ⟨b1, hb1⟩ : ∃ qq, bs[i]? = some qq := ⟨_, List.getElem?_eq_getElem (by omega)⟩
  refine WP.region rfl ?_
  refine WO.mv rfl rfl ?_
  refine WO.mv rfl rfl ?_
  refine WO.mv rfl rfl ?_
  refine WO.val (run_indexAddr (q := adr a (i * 4)) Tryz.underlying22 Ty.sz51 rfl rfl (by omega) (by omega) ((hX (hS1.focus 2 rfl)).2.1 (by omega)) rfl) rfl rfl rfl ?_
  refine WO.val (run_loadAgg (vs := [Value.int .i64 b1.first, Value.int .i64 b1.to, Value.slice b1.rs.a b1.rs.l.length b1.rs.cap, Value.slice b1.ds.a b1.ds.l.length b1.ds.cap]) Ty.ag51 Ty.sz51 rfl ((hX (hS1.focus 2 rfl)).cells (by rw [flat_len blc_len]; omega) (flat_part blc_len hb1)).1 ((hX (hS1.focus 2 rfl)).cells (by rw [flat_len blc_len]; omega) (flat_part blc_len hb1)).2) rfl rfl rfl ?_
  have hS2 := allA_get blA_pers (List.mem_of_getElem? hb1) (hS1.permT [3, 0, 0, 0] (L' := allA blA bs :: own oa Cs.length oc 46 4 (Cs.flatMap blc) :: allA blA Cs :: X :: L) rfl)
  clear hS1
  refine WO.call rfl rfl Ty.hd54 rfl (to15_spec b1 (hbz b1 (List.mem_of_getElem? hb1)) hS2) (fun v4 w3 pv4 => ?_)
  obtain ⟨c1, rfl, hc1, hS3⟩ := pv4
  clear hS2
  refine WO.buildSlice (l := [Value.int .i64 c1.first, Value.int .i64 c1.to, Value.slice c1.rs.a c1.rs.l.length c1.rs.cap, Value.slice c1.ds.a c1.ds.l.length c1.ds.cap]) hS3 Tryz.underlying39 rfl (fun w => by kernel_rfl) rfl (fun g6 w5 lg6 hS5 => ?_)
  clear hS3
  refine WO.append (news := [Value.int .i64 c1.first, Value.int .i64 c1.to, Value.slice c1.rs.a c1.rs.l.length c1.rs.cap, Value.slice c1.ds.a c1.ds.l.length c1.ds.cap]) 4 rfl Tryz.underlying39 Tryz.underlying39 (fun _ h => by cases h) Ty.sz46 (by decide) Ty.by46 Ty.zr46 rfl rfl rfl rfl hS5 rfl ((hS5.cel_rd 0 rfl (o := 0) (m := 1) (k := 4) rfl (Nat.le_of_ble_eq_true rfl)).src) (by simp [noAgg]) (by omega) (by omega) (fun a8 c9 w7 hS7 => ?_)
  replace hS7 : St B (cel g6 [Value.int .i64 c1.first, Value.int .i64 c1.to, Value.slice c1.rs.a c1.rs.l.length c1.rs.cap, Value.slice c1.ds.a c1.ds.l.length c1.ds.cap] 46 :: blA c1 :: blA b1 :: allA blA bs :: own a8 (Cs.length + 1) c9 46 4 ((Cs.flatMap blc) ++ [Value.int .i64 c1.first, Value.int .i64 c1.to, Value.slice c1.rs.a c1.rs.l.length c1.rs.cap, Value.slice c1.ds.a c1.ds.l.length c1.ds.cap]) :: allA blA Cs :: X :: L) w7 := hS7
  clear hS5
  refine WO.asg rfl rfl ?_
  refine WO.nil (NX.blk (NX.go (WP.region rfl ?_)))
  refine WO.mv rfl rfl ?_
  refine WO.val (run_add rfl rfl (IntWalk.i64_in _ (by omega))) rfl rfl rfl ?_
  refine WO.asg rfl rfl ?_
  refine WO.nil ?_
  have hS10 := allA_snoc (hS7.permT [5, 1, 0, 0, 0, 0, 0] (L' := allA blA Cs :: blA c1 :: cel g6 [Value.int .i64 c1.first, Value.int .i64 c1.to, Value.slice c1.rs.a c1.rs.l.length c1.rs.cap, Value.slice c1.ds.a c1.ds.l.length c1.ds.cap] 46 :: blA b1 :: allA blA bs :: own a8 (Cs.length + 1) c9 46 4 ((Cs.flatMap blc) ++ [Value.int .i64 c1.first, Value.int .i64 c1.to, Value.slice c1.rs.a c1.rs.l.length c1.rs.cap, Value.slice c1.ds.a c1.ds.l.length c1.ds.cap]) :: X :: L) rfl)
  clear hS7
  exact NX.again (i + 1, Cs ++ [c1], a8, c9) ⟨⟨by omega, by rw [take_snocM hb1, List.map_append, List.map_append, hCs, List.map_cons, hc1]; rfl, by rw [List.length_append, hCn]; rfl⟩, own_eqM (hS10.permT [1, 1, 2, 0, 1, 0] (L' := cel g6 [Value.int .i64 c1.first, Value.int .i64 c1.to, Value.slice c1.rs.a c1.rs.l.length c1.rs.cap, Value.slice c1.ds.a c1.ds.l.length c1.ds.cap] 46 :: blA b1 :: own a8 (Cs.length + 1) c9 46 4 ((Cs.flatMap blc) ++ [Value.int .i64 c1.first, Value.int .i64 c1.to, Value.slice c1.rs.a c1.rs.l.length c1.rs.cap, Value.slice c1.ds.a c1.ds.l.length c1.ds.cap]) :: allA blA (Cs ++ [c1]) :: X :: allA blA bs :: L) rfl).drop.drop (by simp) (by simp [blc])⟩ (by show bs.length - (i + 1) < bs.length - i; omega) (Sub.cons rfl (Sub.consE rfl (by simp) (Sub.consE rfl (by congr 1) (Sub.nil _))))
 ·
  refine WP.exit (NX.thenExit (NX.thenExit ?_))
  refine NX.blkExit ?_
  refine NX.go (WP.seq (WP.region rfl ?_))
  refine WO.mv rfl rfl ?_
  refine WO.asg rfl rfl ?_
  refine WO.nil (NX.go (WP.ret ?_))
  refine NX.done (l := [.tmp 2]) rfl rfl ?_
  exact ⟨oa, oc, Cs, rfl, by rw [hCs, List.take_of_length_le (by omega)], hS1⟩
end Go.Proofs.YtidoidoelgfnaaaGreatDoor.SL
