import Derived.Test.YtidoidoelgfnaaaGreatDoorKg1M
import Derived.Test.YtidoidoelgfnaaaGreatDoorKrmM
/- What is wrong with labels, with records: the reference. -/
namespace Go.Proofs.YtidoidoelgfnaaaGreatDoor.SL
open Go.RowKit Go.Proofs.YtidoidoelgfnaaaGreatDoor
open Go.Proofs.YtidoidoelgfnaaaGreatDoorW.PrintLast (rtab opsOf)
set_option linter.unusedVariables false
set_option linter.unusedSimpArgs false

theorem gtS_of {a b : List UInt8} (h : (strLt a b || decide (a = b)) = false) : gtS a b = true := by unfold gtS; rw [h]; rfl
theorem gtS_not {a b : List UInt8} (h : (strLt a b || decide (a = b)) = true) : gtS a b = false := by unfold gtS; rw [h]; rfl
theorem t49_6 : rtab .any (opsOf Tryz.f49 6) = (true, [([], []), ([], []), ([0, 1], [0, 1]), ([2], [2]), ([3], [3]), ([4], [4]), ([5], [5]), ([6, 5], [6]), ([7], [7]), ([7], [7]), ([8, 9, 7], [7, 8, 9]), ([10, 7], [7, 10]), ([11, 7], [7, 11]), ([12, 7, 7], [7, 12]), ([13, 7], [7, 13]), ([7, 14], [7, 14]), ([15, 13], [15]), ([16], [16]), ([17, 16], [16, 17]), ([18, 16, 16], [16, 18]), ([19], [19]), ([19], [19]), ([20, 21, 19], [19, 20, 21]), ([22, 19], [19, 22]), ([23, 19], [19, 23]), ([19], [19]), ([19], [19]), ([26, 19], [19, 26]), ([25, 27, 19], [19, 25, 27]), ([28, 19], [19, 28]), ([29, 19], [19, 29]), ([24, 30, 19], [19, 24, 30]), ([19, 31, 16], [16, 19, 31]), ([16, 32], [16, 32])]) := by kernel_rfl
theorem rchk10_spec {B w : World} {L : List HP} {X : HP} {a : Option Addr} {cap : Nat} {l : List Pr} (hX : ∀ {L : List HP} {w : World}, St B (X :: L) w → Rd w a l.length 2 (l.flatMap prc)) (hb : SzP l) (hl : l.length ≤ 4398046511104) (hS : St B (X :: L) w) : Does Tryz.prog 49 [Value.slice a l.length cap] w (fun v w1 => v = .int .i64 (if chk l = true then 0 else 16) ∧ St B (X :: L) w1) := by
 refine enter (n := 52) Tryz.func49 rfl rfl [Value.slice a l.length cap] rfl ?_
 refine WP.seq (WP.region rfl ?_)
 refine WO.asg rfl rfl ?_
 refine WO.nil (NX.go (WP.seq (WP.seq (WP.region rfl ?_))))
 refine WO.mv rfl rfl ?_
 refine WO.V (run_len rfl Tryz.underlying65 rfl) ?_
 refine WO.V (run_lss rfl rfl) ?_
 refine WO.mv rfl rfl ?_
 refine dcase (p := ((l.length : Nat) : Int) < 1) (fun g7 d7 => ?_) (fun g7 d7 => ?_)
 ·
  refine WO.off rfl rfl d7 rfl ?_
  refine WO.off rfl rfl d7 rfl ?_
  refine WO.off rfl rfl d7 rfl ?_
  refine WO.V (run_pickT rfl d7 rfl) ?_
  refine WO.nil (NX.go ?_)
  refine WP.condT rfl rfl ?_
  refine WP.seq (WP.region rfl ?_)
  refine WO.asg rfl rfl ?_
  refine WO.nil (NX.go (WP.ret (NX.thenRet ?_)))
  refine NX.done (l := [.tmp 2]) rfl rfl ?_
  exact ⟨congrArg (Value.int .i64) (if_neg (by simp [chk]; intros; omega)).symm, hS⟩
 ·
  refine WO.on rfl rfl d7 ?_
  refine WO.mv rfl rfl ?_
  refine WO.on rfl rfl d7 ?_
  refine WO.V (run_len rfl Tryz.underlying65 rfl) ?_
  refine WO.on rfl rfl d7 ?_
  refine WO.V (run_gtr rfl rfl) ?_
  refine WO.V (run_pickF rfl d7 rfl) ?_
  refine WO.nil (NX.go ?_)
  refine WP.condP rfl (fun g11 => ?_) (fun g11 => ?_)
  ·
   refine WP.seq (WP.region rfl ?_)
   refine WO.asg rfl rfl ?_
   refine WO.nil (NX.go (WP.ret (NX.thenRet ?_)))
   refine NX.done (l := [.tmp 2]) rfl rfl ?_
   exact ⟨congrArg (Value.int .i64) (if_neg (by simp [chk]; intros; omega)).symm, hS⟩
  ·
   refine WP.skip (NX.go (WP.seq (WP.seq (WP.region rfl ?_))))
   refine WO.asg rfl rfl ?_
   refine WO.nil (NX.go (WP.block ?_))
   refine WP.loop (α := Nat × List UInt8) (fun x => match x with | ⟨i, last⟩ => [(0, Value.slice a l.length cap), (3, Value.int .i64 (i : Int))]) (fun x w => match x with | ⟨i, last⟩ => (i ≤ l.length ∧ (i = 0 → last = []) ∧ (∀ q, 0 < i → l[i - 1]? = some q → last = q.n) ∧ chkGo last (l.drop i) = chkGo [] l) ∧ St B (X :: L) w) (fun x => match x with | ⟨i, last⟩ => l.length - i) (0, []) ⟨⟨Nat.zero_le _, fun _ => rfl, fun q h => absurd h (by omega), rfl⟩, hS⟩ (Sub.cons rfl (Sub.consE rfl (by first | rfl | first | rfl | (congr 1; omega) | (simp; done) | (simp; omega)) (Sub.nil _))) ?_
   rintro ⟨i, last⟩ w1 ⟨⟨hi, hz, hq, hgo⟩, hS1⟩
   clear hS
   refine WP.seq (WP.seq (WP.region rfl ?_))
   refine WO.mv rfl rfl ?_
   refine WO.mv rfl rfl ?_
   refine WO.V (run_len rfl Tryz.underlying65 rfl) ?_
   refine WO.V (run_lss rfl rfl) ?_
   refine WO.nil (NX.go ?_)
   refine WP.condP rfl (fun g15 => ?_) (fun g15 => ?_)
   ·
    refine WP.skip (NX.go (WP.seq (WP.block (WP.seq ?_))))
    obtain ⟨p, hp⟩ : ∃ p, l[i]? = some p := ⟨_, List.getElem?_eq_getElem (by omega)⟩
    have hsa : a.isSome = true := rd_isSome (hX (hS1.focus 0 rfl)) (by omega)
    have hpz := hb p (List.mem_of_getElem? hp)
    have hqe : 0 < i → ∃ q, l[i - 1]? = some q := fun h => ⟨_, List.getElem?_eq_getElem (by omega)⟩
    refine WD.start (fun w => Rd w a l.length 2 (l.flatMap prc)) [] (bt 34 0) Ty.mo rfl (by kernel_rfl) hS1 (fun _ h => (hX (h.focus 0 rfl))) (fun w2 hS2 s3 => ?_)
    clear hS1
    refine DP (i := 0) t49_6 (bt 34 1) rfl rfl rfl rfl (fun w => run_move rfl) ?_
    refine DP (i := 1) t49_6 (bt 34 3) rfl rfl rfl rfl (fun w => run_move rfl) ?_
    refine DT (i := 2) t49_6 (bt 34 7) s3 rfl rfl rfl rfl (fun w hs => run_indexAddr (q := adr a (i * 2)) Tryz.underlying65 Ty.sz105 rfl rfl (by omega) (by omega) ((hs).2.1 (by omega)) rfl) ?_
    refine DP (i := 3) t49_6 (bt 34 15) rfl rfl rfl rfl (fun w => run_fa 0 (adr a (i * 2 + 0)) rfl (adr_add _ (by assumption) _ _)) ?_
    refine DT (i := 4) t49_6 (bt 34 31) s3 rfl rfl rfl rfl (fun w hs => run_load Ty.ag9 rfl ((hs).cell ((flat_get prc_len hp (j := 0) (by decide)).trans rfl))) ?_
    refine WD.one (i := 5) t49_6 (bt 34 63) rfl (by kernel_rfl) ?_
    refine WO.call rfl rfl Ty.hd83 rfl (rname_spec p.n (by omega) hS2) (fun v5 w4 pv5 => ?_)
    obtain ⟨rfl, hS4⟩ := pv5
    clear hS2
    refine WO.nil ?_
    have s6 : Rd w4 a l.length 2 (l.flatMap prc) := (hX (hS4.focus 0 rfl))
    refine NX.held s6 ?_
    refine DP (i := 6) t49_6 (bt 34 127) rfl rfl rfl rfl (fun w => run_not rfl rfl) ?_
    refine DP (i := 7) t49_6 (bt 34 255) rfl rfl rfl rfl (fun w => run_move rfl) ?_
    rcases Bool.eq_false_or_eq_true (!(nameF p.n)) with g25 | g25
    ·
     refine DO (i := 8) t49_6 (bt 34 511) rfl rfl rfl g25 rfl ?_
     refine DO (i := 9) t49_6 (bt 34 1023) rfl rfl rfl g25 rfl ?_
     refine DO (i := 10) t49_6 (bt 34 2047) rfl rfl rfl g25 rfl ?_
     refine DO (i := 11) t49_6 (bt 34 4095) rfl rfl rfl g25 rfl ?_
     refine DO (i := 12) t49_6 (bt 34 8191) rfl rfl rfl g25 rfl ?_
     refine DO (i := 13) t49_6 (bt 34 16383) rfl rfl rfl g25 rfl ?_
     refine DO (i := 14) t49_6 (bt 34 32767) rfl rfl rfl g25 rfl ?_
     refine DP (i := 15) t49_6 (bt 34 65535) rfl rfl rfl rfl (fun w => run_pickT rfl g25 rfl) ?_
     refine DP (i := 16) t49_6 (bt 34 131071) rfl rfl rfl rfl (fun w => run_move rfl) ?_
     refine DO (i := 17) t49_6 (bt 34 262143) rfl rfl rfl rfl rfl ?_
     refine DO (i := 18) t49_6 (bt 34 524287) rfl rfl rfl rfl rfl ?_
     refine DO (i := 19) t49_6 (bt 34 1048575) rfl rfl rfl rfl rfl ?_
     refine DU (i := 20) t49_6 (bt 34 2097151) rfl rfl rfl rfl ?_
     refine DU (i := 21) t49_6 (bt 34 4194303) rfl rfl rfl rfl ?_
     refine DU (i := 22) t49_6 (bt 34 8388607) rfl rfl rfl rfl ?_
     refine DU (i := 23) t49_6 (bt 34 16777215) rfl rfl rfl rfl ?_
     refine DU (i := 24) t49_6 (bt 34 33554431) rfl rfl rfl rfl ?_
     refine DU (i := 25) t49_6 (bt 34 67108863) rfl rfl rfl rfl ?_
     refine DU (i := 26) t49_6 (bt 34 134217727) rfl rfl rfl rfl ?_
     refine DU (i := 27) t49_6 (bt 34 268435455) rfl rfl rfl rfl ?_
     refine DU (i := 28) t49_6 (bt 34 536870911) rfl rfl rfl rfl ?_
     refine DU (i := 29) t49_6 (bt 34 1073741823) rfl rfl rfl rfl ?_
     refine DU (i := 30) t49_6 (bt 34 2147483647) rfl rfl rfl rfl ?_
     refine DU (i := 31) t49_6 (bt 34 4294967295) rfl rfl rfl rfl ?_
     refine DO (i := 32) t49_6 (bt 34 8589934591) rfl rfl rfl rfl rfl ?_
     refine DP (i := 33) t49_6 (bt 34 17179869183) rfl rfl rfl rfl (fun w => run_pickT rfl rfl rfl) ?_
     refine WD.done t49_6 (by kernel_rfl) ?_
     refine NX.go ?_
     refine WP.condT rfl rfl ?_
     refine WP.seq (WP.region rfl ?_)
     refine WO.asg rfl rfl ?_
     refine WO.nil (NX.go (WP.ret (NX.blkRet (NX.thenRet (NX.thenRet (NX.blkRet (NX.thenRet ?_)))))))
     refine NX.done (l := [.tmp 2]) rfl rfl ?_
     have hc : chkGo [] l = false := by rw [← hgo, drop_cons hp, chkGo]; simp at g25; rw [g25]; rfl
     exact ⟨congrArg (Value.int .i64) (if_neg (by simp [chk, hc])).symm, hS4⟩
    ·
     refine DPn (i := 8) t49_6 (bt 34 511) rfl rfl rfl g25 rfl (fun w => run_move rfl) ?_
     refine DPn (i := 9) t49_6 (bt 34 1023) rfl rfl rfl g25 rfl (fun w => run_move rfl) ?_
     refine DTn (i := 10) t49_6 (bt 34 2047) s6 rfl rfl rfl g25 rfl (fun w hs => run_indexAddr (q := adr a (i * 2)) Tryz.underlying65 Ty.sz105 rfl rfl (by omega) (by omega) ((hs).2.1 (by omega)) rfl) ?_
     refine DPn (i := 11) t49_6 (bt 34 4095) rfl rfl rfl g25 rfl (fun w => run_fa 1 (adr a (i * 2 + 1)) rfl (adr_add _ (by assumption) _ _)) ?_
     refine DTn (i := 12) t49_6 (bt 34 8191) s6 rfl rfl rfl g25 rfl (fun w hs => run_load Ty.ag9 rfl ((hs).cell ((flat_get prc_len hp (j := 1) (by decide)).trans rfl))) ?_
     refine WD.one (i := 13) t49_6 (bt 34 16383) rfl (by kernel_rfl) ?_
     refine WO.on rfl rfl g25 ?_
     refine WO.call rfl rfl Ty.hd84 rfl (rvalue_spec p.v (by omega) hS4) (fun v8 w7 pv8 => ?_)
     obtain ⟨rfl, hS7⟩ := pv8
     clear hS4
     refine WO.nil ?_
     have s9 : Rd w7 a l.length 2 (l.flatMap prc) := (hX (hS7.focus 0 rfl))
     refine NX.held s9 ?_
     refine DPn (i := 14) t49_6 (bt 34 32767) rfl rfl rfl g25 rfl (fun w => run_not rfl rfl) ?_
     refine DP (i := 15) t49_6 (bt 34 65535) rfl rfl rfl rfl (fun w => run_pickF rfl g25 rfl) ?_
     refine DP (i := 16) t49_6 (bt 34 131071) rfl rfl rfl rfl (fun w => run_move rfl) ?_
     rcases Bool.eq_false_or_eq_true (!(valueF p.v)) with g34 | g34
     ·
      refine DO (i := 17) t49_6 (bt 34 262143) rfl rfl rfl g34 rfl ?_
      refine DO (i := 18) t49_6 (bt 34 524287) rfl rfl rfl g34 rfl ?_
      refine DO (i := 19) t49_6 (bt 34 1048575) rfl rfl rfl g34 rfl ?_
      refine DU (i := 20) t49_6 (bt 34 2097151) rfl rfl rfl rfl ?_
      refine DU (i := 21) t49_6 (bt 34 4194303) rfl rfl rfl rfl ?_
      refine DU (i := 22) t49_6 (bt 34 8388607) rfl rfl rfl rfl ?_
      refine DU (i := 23) t49_6 (bt 34 16777215) rfl rfl rfl rfl ?_
      refine DU (i := 24) t49_6 (bt 34 33554431) rfl rfl rfl rfl ?_
      refine DU (i := 25) t49_6 (bt 34 67108863) rfl rfl rfl rfl ?_
      refine DU (i := 26) t49_6 (bt 34 134217727) rfl rfl rfl rfl ?_
      refine DU (i := 27) t49_6 (bt 34 268435455) rfl rfl rfl rfl ?_
      refine DU (i := 28) t49_6 (bt 34 536870911) rfl rfl rfl rfl ?_
      refine DU (i := 29) t49_6 (bt 34 1073741823) rfl rfl rfl rfl ?_
      refine DU (i := 30) t49_6 (bt 34 2147483647) rfl rfl rfl rfl ?_
      refine DU (i := 31) t49_6 (bt 34 4294967295) rfl rfl rfl rfl ?_
      refine DO (i := 32) t49_6 (bt 34 8589934591) rfl rfl rfl g34 rfl ?_
      refine DP (i := 33) t49_6 (bt 34 17179869183) rfl rfl rfl rfl (fun w => run_pickT rfl g34 rfl) ?_
      refine WD.done t49_6 (by kernel_rfl) ?_
      refine NX.go ?_
      refine WP.condT rfl rfl ?_
      refine WP.seq (WP.region rfl ?_)
      refine WO.asg rfl rfl ?_
      refine WO.nil (NX.go (WP.ret (NX.blkRet (NX.thenRet (NX.thenRet (NX.blkRet (NX.thenRet ?_)))))))
      refine NX.done (l := [.tmp 2]) rfl rfl ?_
      have hc : chkGo [] l = false := by rw [← hgo, drop_cons hp, chkGo]; simp at g34; rw [g34]; simp
      exact ⟨congrArg (Value.int .i64) (if_neg (by simp [chk, hc])).symm, hS7⟩
     ·
      refine DPn (i := 17) t49_6 (bt 34 262143) rfl rfl rfl g34 rfl (fun w => run_move rfl) ?_
      refine DPn (i := 18) t49_6 (bt 34 524287) rfl rfl rfl g34 rfl (fun w => run_gtr rfl rfl) ?_
      refine DPn (i := 19) t49_6 (bt 34 1048575) rfl rfl rfl g34 rfl (fun w => run_move rfl) ?_
      refine dcase (p := 0 < (i : Int)) (fun g37 d37 => ?_) (fun g37 d37 => ?_)
      ·
       obtain ⟨q, hq1⟩ := hqe (by omega)
       refine DPn (i := 20) t49_6 (bt 34 2097151) rfl rfl rfl d37 rfl (fun w => run_move rfl) ?_
       refine DPn (i := 21) t49_6 (bt 34 4194303) rfl rfl rfl d37 rfl (fun w => run_move rfl) ?_
       refine DTn (i := 22) t49_6 (bt 34 8388607) s9 rfl rfl rfl d37 rfl (fun w hs => run_indexAddr (q := adr a (i * 2)) Tryz.underlying65 Ty.sz105 rfl rfl (by omega) (by omega) ((hs).2.1 (by omega)) rfl) ?_
       refine DPn (i := 23) t49_6 (bt 34 16777215) rfl rfl rfl d37 rfl (fun w => run_fa 0 (adr a (i * 2 + 0)) rfl (adr_add _ (by assumption) _ _)) ?_
       refine DTn (i := 24) t49_6 (bt 34 33554431) s9 rfl rfl rfl d37 rfl (fun w hs => run_load Ty.ag9 rfl ((hs).cell ((flat_get prc_len hp (j := 0) (by decide)).trans rfl))) ?_
       refine DPn (i := 25) t49_6 (bt 34 67108863) rfl rfl rfl d37 rfl (fun w => run_move rfl) ?_
       refine DPn (i := 26) t49_6 (bt 34 134217727) rfl rfl rfl d37 rfl (fun w => run_move rfl) ?_
       refine DPn (i := 27) t49_6 (bt 34 268435455) rfl rfl rfl d37 rfl (fun w => run_sub rfl rfl (IntWalk.i64_in _ (by omega))) ?_
       refine DTn (i := 28) t49_6 (bt 34 536870911) s9 rfl rfl rfl d37 rfl (fun w hs => run_indexAddr (q := adr a ((i - 1) * 2)) Tryz.underlying65 Ty.sz105 rfl rfl (by omega) (by omega) ((hs).2.1 (by omega)) (by rw [show ((i : Int) - 1).toNat = i - 1 by omega])) ?_
       refine DPn (i := 29) t49_6 (bt 34 1073741823) rfl rfl rfl d37 rfl (fun w => run_fa 0 (adr a ((i - 1) * 2 + 0)) rfl (adr_add _ (by assumption) _ _)) ?_
       refine DTn (i := 30) t49_6 (bt 34 2147483647) s9 rfl rfl rfl d37 rfl (fun w hs => run_load Ty.ag9 rfl ((hs).cell ((flat_get prc_len hq1 (j := 0) (by decide)).trans rfl))) ?_
       refine DPn (i := 31) t49_6 (bt 34 4294967295) rfl rfl rfl d37 rfl (fun w => run_leqS rfl rfl) ?_
       refine DPn (i := 32) t49_6 (bt 34 8589934591) rfl rfl rfl g34 rfl (fun w => run_pickT rfl d37 rfl) ?_
       refine DP (i := 33) t49_6 (bt 34 17179869183) rfl rfl rfl rfl (fun w => run_pickF rfl g34 rfl) ?_
       refine WD.done t49_6 (by kernel_rfl) ?_
       refine NX.go ?_
       refine WP.condB rfl (fun g51 => ?_) (fun g51 => ?_)
       ·
        refine WP.seq (WP.region rfl ?_)
        refine WO.asg rfl rfl ?_
        refine WO.nil (NX.go (WP.ret (NX.blkRet (NX.thenRet (NX.thenRet (NX.blkRet (NX.thenRet ?_)))))))
        refine NX.done (l := [.tmp 2]) rfl rfl ?_
        have hc : chkGo [] l = false := by rw [← hgo, drop_cons hp, chkGo]; rw [hq q (by omega) hq1, gtS_not (by simpa using g51)]; simp
        exact ⟨congrArg (Value.int .i64) (if_neg (by simp [chk, hc])).symm, hS7⟩
       ·
        refine WP.skip (NX.blk (NX.go ?_))
        have hnv : (nameF p.n && valueF p.v) = true := by simp at g25 g34; rw [g25, g34]; rfl
        have hnm : nameF p.n = true := by simpa using g25
        have hgt : gtS p.n last = true := by rw [hq q (by omega) hq1]; exact gtS_of (by simpa using g51)
        refine WP.region rfl ?_
        refine WO.mv rfl rfl ?_
        refine WO.V (run_add rfl rfl (IntWalk.i64_in _ (by omega))) ?_
        refine WO.asg rfl rfl ?_
        refine WO.nil ?_
        exact NX.again (i + 1, p.n) ⟨⟨by omega, fun h => by omega, fun q _ h => by rw [Nat.add_sub_cancel, hp] at h; cases h; rfl, by rw [drop_cons hp, chkGo, hnv, hgt] at hgo; simpa using hgo⟩, hS7⟩ (by show l.length - (i + 1) < l.length - i; omega) (Sub.cons rfl (Sub.consE rfl (by congr 1) (Sub.nil _)))
      ·
       refine DO (i := 20) t49_6 (bt 34 2097151) rfl rfl rfl d37 rfl ?_
       refine DO (i := 21) t49_6 (bt 34 4194303) rfl rfl rfl d37 rfl ?_
       refine DO (i := 22) t49_6 (bt 34 8388607) rfl rfl rfl d37 rfl ?_
       refine DO (i := 23) t49_6 (bt 34 16777215) rfl rfl rfl d37 rfl ?_
       refine DO (i := 24) t49_6 (bt 34 33554431) rfl rfl rfl d37 rfl ?_
       refine DO (i := 25) t49_6 (bt 34 67108863) rfl rfl rfl d37 rfl ?_
       refine DO (i := 26) t49_6 (bt 34 134217727) rfl rfl rfl d37 rfl ?_
       refine DO (i := 27) t49_6 (bt 34 268435455) rfl rfl rfl d37 rfl ?_
       refine DO (i := 28) t49_6 (bt 34 536870911) rfl rfl rfl d37 rfl ?_
       refine DO (i := 29) t49_6 (bt 34 1073741823) rfl rfl rfl d37 rfl ?_
       refine DO (i := 30) t49_6 (bt 34 2147483647) rfl rfl rfl d37 rfl ?_
       refine DO (i := 31) t49_6 (bt 34 4294967295) rfl rfl rfl d37 rfl ?_
       refine DPn (i := 32) t49_6 (bt 34 8589934591) rfl rfl rfl g34 rfl (fun w => run_pickF rfl d37 rfl) ?_
       refine DP (i := 33) t49_6 (bt 34 17179869183) rfl rfl rfl rfl (fun w => run_pickF rfl g34 rfl) ?_
       refine WD.done t49_6 (by kernel_rfl) ?_
       refine NX.go ?_
       refine WP.condF rfl rfl ?_
       refine WP.skip (NX.blk (NX.go ?_))
       have hnv : (nameF p.n && valueF p.v) = true := by simp at g25 g34; rw [g25, g34]; rfl
       have hnm : nameF p.n = true := by simpa using g25
       have hgt : gtS p.n last = true := by rw [hz (by omega)]; exact gt_nil (nameF_ne hnm)
       refine WP.region rfl ?_
       refine WO.mv rfl rfl ?_
       refine WO.V (run_add rfl rfl (IntWalk.i64_in _ (by omega))) ?_
       refine WO.asg rfl rfl ?_
       refine WO.nil ?_
       exact NX.again (i + 1, p.n) ⟨⟨by omega, fun h => by omega, fun q _ h => by rw [Nat.add_sub_cancel, hp] at h; cases h; rfl, by rw [drop_cons hp, chkGo, hnv, hgt] at hgo; simpa using hgo⟩, hS7⟩ (by show l.length - (i + 1) < l.length - i; omega) (Sub.cons rfl (Sub.consE rfl (by congr 1) (Sub.nil _)))
   ·
    refine WP.exit (NX.thenExit (NX.thenExit ?_))
    refine NX.blkExit ?_
    refine NX.go (WP.seq (WP.region rfl ?_))
    refine WO.asg rfl rfl ?_
    refine WO.nil (NX.go (WP.ret ?_))
    refine NX.done (l := [.tmp 2]) rfl rfl ?_
    have hc : chk l = true := by unfold chk; rw [← hgo, List.drop_of_length_le (by omega)]; simp [chkGo]; omega
    exact ⟨congrArg (Value.int .i64) (if_pos hc).symm, hS1⟩

theorem rcheck_commit {r : Rcd} (h1 : r.k = 1) (h2 : r.ms.l.length = 0) (h3 : r.fr = 0) (h4 : r.to = 0) (h5 : 1 ≤ r.ss.l.length) (h6 : r.ss.l.length ≤ 32) : rcheck r = if smsGo r.ss.l = true then 0 else 16 := by
  unfold rcheck; rw [if_pos h1, if_neg (by simp [h2, h3, h4]), if_neg (by simp [h5, h6])]
theorem rcheck_del {r : Rcd} (h1 : r.k = 2) (h2 : r.ss.l.length = 0) : rcheck r = if ¬ mchk r.ms.l = 0 then mchk r.ms.l else if r.fr ≤ r.to then 0 else 9 := by
  unfold rcheck; rw [if_neg (by omega), if_pos h1, if_neg (by simp [h2])]
set_option maxHeartbeats 1000000 in
theorem r12chk_spec {B w : World} {L : List HP} (r : Rcd) (hz : SzR r) (hS : St B (recA r :: L) w) : Does Tryz.prog 15 [Value.agg #[Value.int .i64 r.k, Value.slice r.ss.a r.ss.l.length r.ss.cap, Value.slice r.ms.a r.ms.l.length r.ms.cap, Value.int .i64 r.fr, Value.int .i64 r.to]] w (fun v w1 => v = .int .i64 (rcheck r) ∧ St B (recA r :: L) w1) := by
 replace hS := recA_open hS
 have hns := hz.ns
 have hnm := hz.nm
 refine enter (n := 87) Tryz.func15 rfl rfl [Value.agg #[Value.int .i64 r.k, Value.slice r.ss.a r.ss.l.length r.ss.cap, Value.slice r.ms.a r.ms.l.length r.ms.cap, Value.int .i64 r.fr, Value.int .i64 r.to]] rfl ?_
 refine WP.seq (WP.region rfl ?_)
 refine WO.box (l := (rcc r)) hS rfl rfl rfl (fun g2 w1 lg2 hS1 => ?_)
 clear hS
 refine WO.asg rfl rfl ?_
 refine WO.nil (NX.go (WP.seq (WP.region rfl ?_)))
 refine WO.V (run_fa 0 ⟨g2, 0, none⟩ rfl rfl) ?_
 refine WO.V (run_load Ty.ag3 rfl ((hS1.cel_at 0 rfl 0).trans rfl)) ?_
 refine WO.V (run_eql rfl rfl) ?_
 refine WO.asg rfl rfl ?_
 refine WO.nil (NX.go (WP.seq ?_))
 refine WP.meet (α := Unit) (fun x => match x with | _ => [(1, Value.pointer (some ⟨g2, 0, none⟩))]) (fun x w => match x with | _ => ((r.k = 1 ∧ r.ms.l.length = 0 ∧ r.fr = 0 ∧ r.to = 0 ∧ 1 ≤ r.ss.l.length ∧ r.ss.l.length ≤ 32) ∨ (r.k = 2 ∧ r.ss.l.length = 0)) ∧ St B (cel g2 (rcc r) 33 :: (rdH r.ss.a r.ss.l.length 3 (r.ss.l.flatMap smc)) :: (rdH r.ms.a r.ms.l.length 3 (r.ms.l.flatMap mtc)) :: smsA r.ss.l :: recA r :: L) w) ?_ (fun K3 => ?_)
 ·
  rintro _ w4 ⟨hok, hS4⟩
  clear hS1
  refine NX.go (WP.seq (WP.seq (WP.region rfl ?_)))
  refine WO.asg rfl rfl ?_
  refine WO.nil (NX.go (WP.block ?_))
  refine WP.loop (α := Nat) (fun x => match x with | i => [(1, Value.pointer (some ⟨g2, 0, none⟩)), (4, Value.int .i64 (i : Int))]) (fun x w => match x with | i => (i ≤ r.ss.l.length ∧ smsGo (r.ss.l.drop i) = smsGo r.ss.l) ∧ St B (cel g2 (rcc r) 33 :: (rdH r.ss.a r.ss.l.length 3 (r.ss.l.flatMap smc)) :: (rdH r.ms.a r.ms.l.length 3 (r.ms.l.flatMap mtc)) :: smsA r.ss.l :: recA r :: L) w) (fun x => match x with | i => r.ss.l.length - i) 0 ⟨⟨Nat.zero_le _, rfl⟩, hS4⟩ (Sub.cons rfl (Sub.consE rfl (by first | rfl | first | rfl | (congr 1; omega) | (simp; done) | (simp; omega)) (Sub.nil _))) ?_
  rintro i w5 ⟨⟨hi, hgo⟩, hS5⟩
  clear hS4
  refine WP.seq (WP.seq (WP.region rfl ?_))
  refine WO.mv rfl rfl ?_
  refine WO.V (run_fa 1 ⟨g2, 1, none⟩ rfl rfl) ?_
  refine WO.V (run_load Ty.ag31 rfl ((hS5.cel_at 0 rfl 1).trans rfl)) ?_
  refine WO.V (run_len rfl Tryz.underlying31 rfl) ?_
  refine WO.V (run_lss rfl rfl) ?_
  refine WO.nil (NX.go ?_)
  refine WP.condP rfl (fun g63 => ?_) (fun g63 => ?_)
  ·
   refine WP.skip (NX.go (WP.seq (WP.block (WP.seq ?_))))
   obtain ⟨z, hz1⟩ : ∃ qq, r.ss.l[i]? = some qq := ⟨_, List.getElem?_eq_getElem (by omega)⟩
   have hsa : r.ss.a.isSome = true := rd_isSome ((rdH_rd (hS5.focus 1 rfl))) (by omega)
   have hS6 := smsA_get hz1 (hS5.permT [3] (L' := _::_::_::_::_::L) rfl)
   clear hS5
   have hzz := hz.s z (List.mem_of_getElem? hz1)
   refine WP.region rfl ?_
   refine WO.V (run_fa 1 ⟨g2, 1, none⟩ rfl rfl) ?_
   refine WO.V (run_load Ty.ag31 rfl ((hS6.cel_at 2 rfl 1).trans rfl)) ?_
   refine WO.mv rfl rfl ?_
   refine WO.V (run_indexAddr (q := adr r.ss.a (i * 3)) Tryz.underlying31 Ty.sz83 rfl rfl (by omega) (by omega) ((rdH_rd (hS6.focus 3 rfl)).2.1 (by omega)) rfl) ?_
   refine WO.V (run_fa 0 (adr r.ss.a (i * 3 + 0)) rfl (adr_add _ (by assumption) _ _)) ?_
   refine WO.V (run_load Ty.ag65 rfl ((rdH_rd (hS6.focus 3 rfl)).cell ((flat_get smc_len hz1 (j := 0) (by decide)).trans rfl))) ?_
   refine WO.call rfl rfl Ty.hd49 rfl (rchk10_spec rdH_rd hzz.2 hzz.1 hS6) (fun v8 w7 pv8 => ?_)
   obtain ⟨rfl, hS7⟩ := pv8
   clear hS6
   refine WO.V (run_neq rfl rfl) ?_
   refine WO.nil (NX.go ?_)
   refine WP.condP rfl (fun g73 => ?_) (fun g73 => ?_)
   ·
    have hck : chk z.lb.l = false := by cases hq : chk z.lb.l with | false => rfl | true => (rw [hq] at g73; exact absurd rfl g73)
    refine WP.seq (WP.region rfl ?_)
    refine WO.asg rfl rfl ?_
    refine WO.nil (NX.go (WP.ret (NX.blkRet (NX.thenRet (NX.thenRet (NX.blkRet (NX.thenRet ?_)))))))
    refine NX.done (l := [.tmp 2]) rfl rfl ?_
    have hsg : smsGo r.ss.l = false := by rw [← hgo, drop_cons hz1, smsGo, hck]; rfl
    refine ⟨congrArg (Value.int .i64) ?_, hS7.drop.drop.drop.drop.drop⟩
    clear hS7
    rcases hok with ⟨a1, a2, a3, a4, a5, a6⟩ | ⟨a1, a2⟩
    · rw [rcheck_commit a1 a2 a3 a4 a5 a6, hsg]; rfl
    · omega
   ·
    have hck : chk z.lb.l = true := by cases hq : chk z.lb.l with | true => rfl | false => (rw [hq] at g73; exact absurd (by decide) g73)
    refine WP.skip (NX.blk (NX.go (WP.region rfl ?_)))
    refine WO.mv rfl rfl ?_
    refine WO.V (run_add rfl rfl (IntWalk.i64_in _ (by omega))) ?_
    refine WO.asg rfl rfl ?_
    refine WO.nil ?_
    exact NX.again (i + 1) ⟨⟨by omega, by rw [← hgo, drop_cons hz1, smsGo, hck, Bool.true_and]⟩, (hS7.permT [0, 1, 1, 1] (L' := _::_::_::_::_::_::L) rfl).drop⟩ (by show r.ss.l.length - (i + 1) < r.ss.l.length - i; omega) (Sub.cons rfl (Sub.consE rfl (by congr 1) (Sub.nil _)))
  ·
   refine WP.exit (NX.thenExit (NX.thenExit ?_))
   refine NX.blkExit ?_
   refine NX.go (WP.seq (WP.region rfl ?_))
   refine WO.V (run_fa 2 ⟨g2, 2, none⟩ rfl rfl) ?_
   refine WO.V (run_load Ty.ag24 rfl ((hS5.cel_at 0 rfl 2).trans rfl)) ?_
   have hS9 := hS5.permT [2] (L' := _::_::_::_::_::L) rfl
   clear hS5
   refine WO.call rfl rfl Ty.hd50 rfl (rcheckm_spec rdH_rd hz.m hz.nm2 hS9) (fun v11 w10 pv11 => ?_)
   obtain ⟨rfl, hS10⟩ := pv11
   clear hS9
   refine WO.asg rfl rfl ?_
   refine WO.nil (NX.go (WP.seq (WP.seq (WP.region rfl ?_))))
   refine WO.mv rfl rfl ?_
   refine WO.V (run_eql rfl rfl) ?_
   refine WO.mv rfl rfl ?_
   refine dcase (p := (mchk r.ms.l) = 0) (fun g79 d79 => ?_) (fun g79 d79 => ?_)
   ·
    refine WO.on rfl rfl d79 ?_
    refine WO.V (run_fa 3 ⟨g2, 3, none⟩ rfl rfl) ?_
    refine WO.on rfl rfl d79 ?_
    refine WO.V (run_load Ty.ag2 rfl ((hS10.cel_at 1 rfl 3).trans rfl)) ?_
    refine WO.on rfl rfl d79 ?_
    refine WO.V (run_fa 4 ⟨g2, 4, none⟩ rfl rfl) ?_
    refine WO.on rfl rfl d79 ?_
    refine WO.V (run_load Ty.ag2 rfl ((hS10.cel_at 1 rfl 4).trans rfl)) ?_
    refine WO.on rfl rfl d79 ?_
    refine WO.V (run_gtr rfl rfl) ?_
    refine WO.V (run_pickT rfl d79 rfl) ?_
    refine WO.nil (NX.go ?_)
    refine WP.condP rfl (fun g85 => ?_) (fun g85 => ?_)
    ·
     refine WP.region rfl ?_
     refine WO.asg rfl rfl ?_
     refine WO.nil (NX.go (WP.seq (WP.region rfl ?_)))
     refine WO.mv rfl rfl ?_
     refine WO.asg rfl rfl ?_
     refine WO.nil (NX.go (WP.ret ?_))
     refine NX.done (l := [.tmp 2]) rfl rfl ?_
     have hsg : smsGo r.ss.l = true := by rw [← hgo, List.drop_of_length_le (by omega)]; rfl
     have hm0 : r.ms.l.length = 0 → mchk r.ms.l = 0 := fun h => by rw [List.length_eq_zero_iff.1 h]; rfl
     refine ⟨congrArg (Value.int .i64) ?_, hS10.drop.drop.drop.drop⟩
     clear hS10
     rcases hok with ⟨a1, a2, a3, a4, a5, a6⟩ | ⟨a1, a2⟩
     · omega
     · rw [rcheck_del a1 a2, if_neg (by simp [g79]), if_neg (by omega)]
    ·
     refine WP.skip (NX.go (WP.seq (WP.region rfl ?_)))
     refine WO.mv rfl rfl ?_
     refine WO.asg rfl rfl ?_
     refine WO.nil (NX.go (WP.ret ?_))
     refine NX.done (l := [.tmp 2]) rfl rfl ?_
     have hsg : smsGo r.ss.l = true := by rw [← hgo, List.drop_of_length_le (by omega)]; rfl
     have hm0 : r.ms.l.length = 0 → mchk r.ms.l = 0 := fun h => by rw [List.length_eq_zero_iff.1 h]; rfl
     refine ⟨congrArg (Value.int .i64) ?_, hS10.drop.drop.drop.drop⟩
     clear hS10
     rcases hok with ⟨a1, a2, a3, a4, a5, a6⟩ | ⟨a1, a2⟩
     · rw [rcheck_commit a1 a2 a3 a4 a5 a6, hsg, g79]; rfl
     · rw [rcheck_del a1 a2, if_neg (by simp [g79]), if_pos (by omega), g79]
   ·
    refine WO.off rfl rfl d79 rfl ?_
    refine WO.off rfl rfl d79 rfl ?_
    refine WO.off rfl rfl d79 rfl ?_
    refine WO.off rfl rfl d79 rfl ?_
    refine WO.off rfl rfl d79 rfl ?_
    refine WO.V (run_pickF rfl d79 rfl) ?_
    refine WO.nil (NX.go ?_)
    refine WP.condF rfl rfl ?_
    refine WP.skip (NX.go (WP.seq (WP.region rfl ?_)))
    refine WO.mv rfl rfl ?_
    refine WO.asg rfl rfl ?_
    refine WO.nil (NX.go (WP.ret ?_))
    refine NX.done (l := [.tmp 2]) rfl rfl ?_
    have hsg : smsGo r.ss.l = true := by rw [← hgo, List.drop_of_length_le (by omega)]; rfl
    have hm0 : r.ms.l.length = 0 → mchk r.ms.l = 0 := fun h => by rw [List.length_eq_zero_iff.1 h]; rfl
    refine ⟨congrArg (Value.int .i64) ?_, hS10.drop.drop.drop.drop⟩
    clear hS10
    rcases hok with ⟨a1, a2, a3, a4, a5, a6⟩ | ⟨a1, a2⟩
    · exact absurd (hm0 a2) g79
    · rw [rcheck_del a1 a2, if_pos g79]
 ·
  refine WP.block (WP.seq (WP.region rfl ?_))
  refine WO.mv rfl rfl ?_
  refine WO.V (run_notP rfl) ?_
  refine WO.mv rfl rfl ?_
  refine dcase (p := ¬ (r.k = 1)) (fun g12 d12 => ?_) (fun g12 d12 => ?_)
  ·
   refine WO.on rfl rfl d12 ?_
   refine WO.V (run_fa 0 ⟨g2, 0, none⟩ rfl rfl) ?_
   refine WO.on rfl rfl d12 ?_
   refine WO.V (run_load Ty.ag3 rfl ((hS1.cel_at 0 rfl 0).trans rfl)) ?_
   refine WO.on rfl rfl d12 ?_
   refine WO.V (run_neq rfl rfl) ?_
   refine WO.V (run_pickT rfl d12 rfl) ?_
   refine WO.asg rfl rfl ?_
   refine WO.nil (NX.go ?_)
   refine WP.condP rfl (fun g9 => ?_) (fun g9 => ?_)
   ·
    refine WP.seq (WP.region rfl ?_)
    refine WO.asg rfl rfl ?_
    refine WO.nil (NX.go (WP.ret (NX.blkRet (NX.thenRet ?_))))
    refine NX.done (l := [.tmp 2]) rfl rfl ?_
    refine ⟨congrArg (Value.int .i64) ?_, hS1.drop.drop.drop.drop⟩
    clear hS1
    unfold rcheck
    repeat split
    all_goals first | rfl | omega
   ·
    refine WP.seq ?_
    refine WP.meet (α := Bool) (fun x => match x with | qq => [(1, Value.pointer (some ⟨g2, 0, none⟩)), (2, Value.int .i64 0), (3, Value.bool (decide (r.k = 1))), (17, Value.bool qq)]) (fun x w => match x with | qq => ((qq = true → (r.k = 1 ∧ ¬ (r.ms.l.length = 0 ∧ r.fr = 0 ∧ r.to = 0)) ∨ (¬ r.k = 1 ∧ 0 < r.ss.l.length)) ∧ (qq = false → ¬ ((r.k = 1 ∧ ¬ (r.ms.l.length = 0 ∧ r.fr = 0 ∧ r.to = 0)) ∨ (¬ r.k = 1 ∧ 0 < r.ss.l.length)))) ∧ St B (cel g2 (rcc r) 33 :: (rdH r.ss.a r.ss.l.length 3 (r.ss.l.flatMap smc)) :: (rdH r.ms.a r.ms.l.length 3 (r.ms.l.flatMap mtc)) :: smsA r.ss.l :: recA r :: L) w) ?_ (fun K12 => ?_)
    ·
     rintro qq w13 ⟨⟨hqa, hqb⟩, hS13⟩
     clear hS1
     refine NX.go ?_
     refine WP.condB rfl (fun g17 => ?_) (fun g17 => ?_)
     ·
      have hb4 := hqa g17
      refine WP.seq (WP.region rfl ?_)
      refine WO.asg rfl rfl ?_
      refine WO.nil (NX.go (WP.ret (NX.blkRet (NX.thenRet ?_))))
      refine NX.done (l := [.tmp 2]) rfl rfl ?_
      refine ⟨congrArg (Value.int .i64) ?_, hS13.drop.drop.drop.drop⟩
      clear hS13
      unfold rcheck
      repeat split
      all_goals first | rfl | omega
     ·
      have hb4 := hqb g17
      refine WP.seq ?_
      refine WP.meet (α := Bool) (fun x => match x with | qq => [(1, Value.pointer (some ⟨g2, 0, none⟩)), (2, Value.int .i64 0), (3, Value.bool (decide (r.k = 1))), (45, Value.bool qq)]) (fun x w => match x with | qq => ((qq = true → r.k = 1 ∧ (r.ss.l.length < 1 ∨ 32 < r.ss.l.length)) ∧ (qq = false → ¬ (r.k = 1 ∧ (r.ss.l.length < 1 ∨ 32 < r.ss.l.length)))) ∧ St B (cel g2 (rcc r) 33 :: (rdH r.ss.a r.ss.l.length 3 (r.ss.l.flatMap smc)) :: (rdH r.ms.a r.ms.l.length 3 (r.ms.l.flatMap mtc)) :: smsA r.ss.l :: recA r :: L) w) ?_ (fun K14 => ?_)
      ·
       rintro qq w15 ⟨⟨hqc, hqd⟩, hS15⟩
       clear hS13
       refine NX.go ?_
       refine WP.condB rfl (fun g45 => ?_) (fun g45 => ?_)
       ·
        have hb6 := hqc g45
        refine WP.seq (WP.region rfl ?_)
        refine WO.asg rfl rfl ?_
        refine WO.nil (NX.go (WP.ret (NX.blkRet (NX.thenRet ?_))))
        refine NX.done (l := [.tmp 2]) rfl rfl ?_
        refine ⟨congrArg (Value.int .i64) ?_, hS15.drop.drop.drop.drop⟩
        clear hS15
        unfold rcheck
        repeat split
        all_goals first | rfl | omega
       ·
        have hb6 := hqd g45
        refine WP.skip (NX.blk ?_)
        exact K3 () _ _ ⟨by omega, hS15⟩ (Sub.cons rfl (Sub.nil _))
      ·
       refine WP.region rfl ?_
       refine WO.mv rfl rfl ?_
       refine WO.mv rfl rfl ?_
       refine dcase (p := r.k = 1) (fun g47 d47 => ?_) (fun g47 d47 => ?_)
       ·
        refine WO.on rfl rfl d47 ?_
        refine WO.V (run_fa 1 ⟨g2, 1, none⟩ rfl rfl) ?_
        refine WO.on rfl rfl d47 ?_
        refine WO.V (run_load Ty.ag31 rfl ((hS13.cel_at 0 rfl 1).trans rfl)) ?_
        refine WO.on rfl rfl d47 ?_
        refine WO.V (run_len rfl Tryz.underlying31 rfl) ?_
        refine WO.on rfl rfl d47 ?_
        refine WO.V (run_lss rfl rfl) ?_
        refine WO.on rfl rfl d47 ?_
        refine WO.mv rfl rfl ?_
        refine dcase (p := ((r.ss.l.length : Nat) : Int) < 1) (fun g52 d52 => ?_) (fun g52 d52 => ?_)
        ·
         refine WO.off rfl rfl d52 rfl ?_
         refine WO.off rfl rfl d52 rfl ?_
         refine WO.off rfl rfl d52 rfl ?_
         refine WO.off rfl rfl d52 rfl ?_
         refine WO.on rfl rfl d47 ?_
         refine WO.V (run_pickT rfl d52 rfl) ?_
         refine WO.V (run_pickT rfl d47 rfl) ?_
         refine WO.asg rfl rfl ?_
         refine WO.nil ?_
         exact K14 true _ _ ⟨⟨(fun _ => by omega), fun h => by cases h⟩, hS13⟩ (Sub.cons rfl (Sub.cons rfl (Sub.cons rfl (Sub.consE rfl (by first | rfl | first | rfl | (congr 1; omega) | (simp; done) | (simp; omega)) (Sub.nil _)))))
        ·
         refine WO.on rfl rfl d52 ?_
         refine WO.V (run_fa 1 ⟨g2, 1, none⟩ rfl rfl) ?_
         refine WO.on rfl rfl d52 ?_
         refine WO.V (run_load Ty.ag31 rfl ((hS13.cel_at 0 rfl 1).trans rfl)) ?_
         refine WO.on rfl rfl d52 ?_
         refine WO.V (run_len rfl Tryz.underlying31 rfl) ?_
         refine WO.on rfl rfl d52 ?_
         refine WO.V (run_gtr rfl rfl) ?_
         refine WO.on rfl rfl d47 ?_
         refine WO.V (run_pickF rfl d52 rfl) ?_
         refine WO.V (run_pickT rfl d47 rfl) ?_
         refine WO.asg rfl rfl ?_
         refine WO.nil ?_
         exact K14 (decide (32 < ((r.ss.l.length : Nat) : Int))) _ _ ⟨⟨(fun h => by have h9 := of_decide_eq_true h; omega), fun h => by have h9 := of_decide_eq_false h; omega⟩, hS13⟩ (Sub.cons rfl (Sub.cons rfl (Sub.cons rfl (Sub.consE rfl (by first | rfl | first | rfl | (congr 1; omega) | (simp; done) | (simp; omega)) (Sub.nil _)))))
       ·
        refine WO.off rfl rfl d47 rfl ?_
        refine WO.off rfl rfl d47 rfl ?_
        refine WO.off rfl rfl d47 rfl ?_
        refine WO.off rfl rfl d47 rfl ?_
        refine WO.off rfl rfl d47 rfl ?_
        refine WO.offU rfl rfl rfl ?_
        refine WO.offU rfl rfl rfl ?_
        refine WO.offU rfl rfl rfl ?_
        refine WO.offU rfl rfl rfl ?_
        refine WO.off rfl rfl d47 rfl ?_
        refine WO.V (run_pickF rfl d47 rfl) ?_
        refine WO.asg rfl rfl ?_
        refine WO.nil ?_
        exact K14 false _ _ ⟨⟨(fun h => by cases h), fun _ => by omega⟩, hS13⟩ (Sub.cons rfl (Sub.cons rfl (Sub.cons rfl (Sub.consE rfl (by first | rfl | first | rfl | (congr 1; omega) | (simp; done) | (simp; omega)) (Sub.nil _)))))
    ·
     refine WP.region rfl ?_
     refine WO.mv rfl rfl ?_
     refine WO.mv rfl rfl ?_
     refine dcase (p := r.k = 1) (fun g19 d19 => ?_) (fun g19 d19 => ?_)
     ·
      refine WO.on rfl rfl d19 ?_
      refine WO.V (run_fa 2 ⟨g2, 2, none⟩ rfl rfl) ?_
      refine WO.on rfl rfl d19 ?_
      refine WO.V (run_load Ty.ag24 rfl ((hS1.cel_at 0 rfl 2).trans rfl)) ?_
      refine WO.on rfl rfl d19 ?_
      refine WO.V (run_len rfl Tryz.underlying24 rfl) ?_
      refine WO.on rfl rfl d19 ?_
      refine WO.V (run_gtr rfl rfl) ?_
      refine WO.on rfl rfl d19 ?_
      refine WO.mv rfl rfl ?_
      refine dcase (p := 0 < ((r.ms.l.length : Nat) : Int)) (fun g24 d24 => ?_) (fun g24 d24 => ?_)
      ·
       refine WO.off rfl rfl d24 rfl ?_
       refine WO.off rfl rfl d24 rfl ?_
       refine WO.off rfl rfl d24 rfl ?_
       refine WO.on rfl rfl d19 ?_
       refine WO.V (run_pickT rfl d24 rfl) ?_
       refine WO.on rfl rfl d19 ?_
       refine WO.mv rfl rfl ?_
       refine WO.off rfl rfl rfl rfl ?_
       refine WO.off rfl rfl rfl rfl ?_
       refine WO.off rfl rfl rfl rfl ?_
       refine WO.on rfl rfl d19 ?_
       refine WO.V (run_pickT rfl rfl rfl) ?_
       refine WO.V (run_pickT rfl d19 rfl) ?_
       refine WO.mv rfl rfl ?_
       refine WO.off rfl rfl rfl rfl ?_
       refine WO.off rfl rfl rfl rfl ?_
       refine WO.off rfl rfl rfl rfl ?_
       refine WO.offU rfl rfl rfl ?_
       refine WO.offU rfl rfl rfl ?_
       refine WO.offU rfl rfl rfl ?_
       refine WO.offU rfl rfl rfl ?_
       refine WO.off rfl rfl rfl rfl ?_
       refine WO.V (run_pickT rfl rfl rfl) ?_
       refine WO.asg rfl rfl ?_
       refine WO.nil ?_
       exact K12 true _ _ ⟨⟨(fun _ => by omega), fun h => by cases h⟩, hS1⟩ (Sub.cons rfl (Sub.cons rfl (Sub.cons rfl (Sub.consE rfl (by first | rfl | first | rfl | (congr 1; omega) | (simp; done) | (simp; omega)) (Sub.nil _)))))
      ·
       refine WO.on rfl rfl d24 ?_
       refine WO.V (run_fa 3 ⟨g2, 3, none⟩ rfl rfl) ?_
       refine WO.on rfl rfl d24 ?_
       refine WO.V (run_load Ty.ag2 rfl ((hS1.cel_at 0 rfl 3).trans rfl)) ?_
       refine WO.on rfl rfl d24 ?_
       refine WO.V (run_neq rfl rfl) ?_
       refine WO.on rfl rfl d19 ?_
       refine WO.V (run_pickF rfl d24 rfl) ?_
       refine WO.on rfl rfl d19 ?_
       refine WO.mv rfl rfl ?_
       refine dcase (p := ¬ r.fr = 0) (fun g29 d29 => ?_) (fun g29 d29 => ?_)
       ·
        refine WO.off rfl rfl d29 rfl ?_
        refine WO.off rfl rfl d29 rfl ?_
        refine WO.off rfl rfl d29 rfl ?_
        refine WO.on rfl rfl d19 ?_
        refine WO.V (run_pickT rfl d29 rfl) ?_
        refine WO.V (run_pickT rfl d19 rfl) ?_
        refine WO.mv rfl rfl ?_
        refine WO.off rfl rfl rfl rfl ?_
        refine WO.off rfl rfl rfl rfl ?_
        refine WO.off rfl rfl rfl rfl ?_
        refine WO.offU rfl rfl rfl ?_
        refine WO.offU rfl rfl rfl ?_
        refine WO.offU rfl rfl rfl ?_
        refine WO.offU rfl rfl rfl ?_
        refine WO.off rfl rfl rfl rfl ?_
        refine WO.V (run_pickT rfl rfl rfl) ?_
        refine WO.asg rfl rfl ?_
        refine WO.nil ?_
        exact K12 true _ _ ⟨⟨(fun _ => by omega), fun h => by cases h⟩, hS1⟩ (Sub.cons rfl (Sub.cons rfl (Sub.cons rfl (Sub.consE rfl (by first | rfl | first | rfl | (congr 1; omega) | (simp; done) | (simp; omega)) (Sub.nil _)))))
       ·
        refine WO.on rfl rfl d29 ?_
        refine WO.V (run_fa 4 ⟨g2, 4, none⟩ rfl rfl) ?_
        refine WO.on rfl rfl d29 ?_
        refine WO.V (run_load Ty.ag2 rfl ((hS1.cel_at 0 rfl 4).trans rfl)) ?_
        refine WO.on rfl rfl d29 ?_
        refine WO.V (run_neq rfl rfl) ?_
        refine WO.on rfl rfl d19 ?_
        refine WO.V (run_pickF rfl d29 rfl) ?_
        refine WO.V (run_pickT rfl d19 rfl) ?_
        refine WO.mv rfl rfl ?_
        refine dcase (p := ¬ r.to = 0) (fun g35 d35 => ?_) (fun g35 d35 => ?_)
        ·
         refine WO.off rfl rfl d35 rfl ?_
         refine WO.off rfl rfl d35 rfl ?_
         refine WO.off rfl rfl d35 rfl ?_
         refine WO.offU rfl rfl rfl ?_
         refine WO.offU rfl rfl rfl ?_
         refine WO.offU rfl rfl rfl ?_
         refine WO.offU rfl rfl rfl ?_
         refine WO.off rfl rfl d35 rfl ?_
         refine WO.V (run_pickT rfl d35 rfl) ?_
         refine WO.asg rfl rfl ?_
         refine WO.nil ?_
         exact K12 true _ _ ⟨⟨(fun _ => by omega), fun h => by cases h⟩, hS1⟩ (Sub.cons rfl (Sub.cons rfl (Sub.cons rfl (Sub.consE rfl (by first | rfl | first | rfl | (congr 1; omega) | (simp; done) | (simp; omega)) (Sub.nil _)))))
        ·
         refine WO.on rfl rfl d35 ?_
         refine WO.mv rfl rfl ?_
         refine WO.on rfl rfl d35 ?_
         refine WO.V (run_notP rfl) ?_
         refine WO.on rfl rfl d35 ?_
         refine WO.mv rfl rfl ?_
         refine dcase (p := ¬ (r.k = 1)) (fun g38 d38 => ?_) (fun g38 d38 => ?_)
         ·
          refine WO.on rfl rfl d38 ?_
          refine WO.V (run_fa 1 ⟨g2, 1, none⟩ rfl rfl) ?_
          refine WO.on rfl rfl d38 ?_
          refine WO.V (run_load Ty.ag31 rfl ((hS1.cel_at 0 rfl 1).trans rfl)) ?_
          refine WO.on rfl rfl d38 ?_
          refine WO.V (run_len rfl Tryz.underlying31 rfl) ?_
          refine WO.on rfl rfl d38 ?_
          refine WO.V (run_gtr rfl rfl) ?_
          refine WO.on rfl rfl d35 ?_
          refine WO.V (run_pickT rfl d38 rfl) ?_
          refine WO.V (run_pickF rfl d35 rfl) ?_
          refine WO.asg rfl rfl ?_
          refine WO.nil ?_
          exact K12 (decide (0 < ((r.ss.l.length : Nat) : Int))) _ _ ⟨⟨(fun h => by have h9 := of_decide_eq_true h; omega), fun h => by have h9 := of_decide_eq_false h; omega⟩, hS1⟩ (Sub.cons rfl (Sub.cons rfl (Sub.cons rfl (Sub.consE rfl (by first | rfl | first | rfl | (congr 1; omega) | (simp; done) | (simp; omega)) (Sub.nil _)))))
         ·
          refine WO.off rfl rfl d38 rfl ?_
          refine WO.off rfl rfl d38 rfl ?_
          refine WO.off rfl rfl d38 rfl ?_
          refine WO.off rfl rfl d38 rfl ?_
          refine WO.on rfl rfl d35 ?_
          refine WO.V (run_pickF rfl d38 rfl) ?_
          refine WO.V (run_pickF rfl d35 rfl) ?_
          refine WO.asg rfl rfl ?_
          refine WO.nil ?_
          exact K12 false _ _ ⟨⟨(fun h => by cases h), fun _ => by omega⟩, hS1⟩ (Sub.cons rfl (Sub.cons rfl (Sub.cons rfl (Sub.consE rfl (by first | rfl | first | rfl | (congr 1; omega) | (simp; done) | (simp; omega)) (Sub.nil _)))))
     ·
      refine WO.off rfl rfl d19 rfl ?_
      refine WO.off rfl rfl d19 rfl ?_
      refine WO.off rfl rfl d19 rfl ?_
      refine WO.off rfl rfl d19 rfl ?_
      refine WO.off rfl rfl d19 rfl ?_
      refine WO.offU rfl rfl rfl ?_
      refine WO.offU rfl rfl rfl ?_
      refine WO.offU rfl rfl rfl ?_
      refine WO.off rfl rfl d19 rfl ?_
      refine WO.off rfl rfl d19 rfl ?_
      refine WO.offU rfl rfl rfl ?_
      refine WO.offU rfl rfl rfl ?_
      refine WO.offU rfl rfl rfl ?_
      refine WO.off rfl rfl d19 rfl ?_
      refine WO.V (run_pickF rfl d19 rfl) ?_
      refine WO.mv rfl rfl ?_
      refine WO.on rfl rfl rfl ?_
      refine WO.mv rfl rfl ?_
      refine WO.on rfl rfl rfl ?_
      refine WO.V (run_notP rfl) ?_
      refine WO.on rfl rfl rfl ?_
      refine WO.mv rfl rfl ?_
      refine dcase (p := ¬ (r.k = 1)) (fun g38 d38 => ?_) (fun g38 d38 => ?_)
      ·
       refine WO.on rfl rfl d38 ?_
       refine WO.V (run_fa 1 ⟨g2, 1, none⟩ rfl rfl) ?_
       refine WO.on rfl rfl d38 ?_
       refine WO.V (run_load Ty.ag31 rfl ((hS1.cel_at 0 rfl 1).trans rfl)) ?_
       refine WO.on rfl rfl d38 ?_
       refine WO.V (run_len rfl Tryz.underlying31 rfl) ?_
       refine WO.on rfl rfl d38 ?_
       refine WO.V (run_gtr rfl rfl) ?_
       refine WO.on rfl rfl rfl ?_
       refine WO.V (run_pickT rfl d38 rfl) ?_
       refine WO.V (run_pickF rfl rfl rfl) ?_
       refine WO.asg rfl rfl ?_
       refine WO.nil ?_
       exact K12 (decide (0 < ((r.ss.l.length : Nat) : Int))) _ _ ⟨⟨(fun h => by have h9 := of_decide_eq_true h; omega), fun h => by have h9 := of_decide_eq_false h; omega⟩, hS1⟩ (Sub.cons rfl (Sub.cons rfl (Sub.cons rfl (Sub.consE rfl (by first | rfl | first | rfl | (congr 1; omega) | (simp; done) | (simp; omega)) (Sub.nil _)))))
      ·
       refine WO.off rfl rfl d38 rfl ?_
       refine WO.off rfl rfl d38 rfl ?_
       refine WO.off rfl rfl d38 rfl ?_
       refine WO.off rfl rfl d38 rfl ?_
       refine WO.on rfl rfl rfl ?_
       refine WO.V (run_pickF rfl d38 rfl) ?_
       refine WO.V (run_pickF rfl rfl rfl) ?_
       refine WO.asg rfl rfl ?_
       refine WO.nil ?_
       exact K12 false _ _ ⟨⟨(fun h => by cases h), fun _ => by omega⟩, hS1⟩ (Sub.cons rfl (Sub.cons rfl (Sub.cons rfl (Sub.consE rfl (by first | rfl | first | rfl | (congr 1; omega) | (simp; done) | (simp; omega)) (Sub.nil _)))))
  ·
   refine WO.off rfl rfl d12 rfl ?_
   refine WO.off rfl rfl d12 rfl ?_
   refine WO.off rfl rfl d12 rfl ?_
   refine WO.V (run_pickF rfl d12 rfl) ?_
   refine WO.asg rfl rfl ?_
   refine WO.nil (NX.go ?_)
   refine WP.condF rfl rfl ?_
   refine WP.seq ?_
   refine WP.meet (α := Bool) (fun x => match x with | qq => [(1, Value.pointer (some ⟨g2, 0, none⟩)), (2, Value.int .i64 0), (3, Value.bool (decide (r.k = 1))), (17, Value.bool qq)]) (fun x w => match x with | qq => ((qq = true → (r.k = 1 ∧ ¬ (r.ms.l.length = 0 ∧ r.fr = 0 ∧ r.to = 0)) ∨ (¬ r.k = 1 ∧ 0 < r.ss.l.length)) ∧ (qq = false → ¬ ((r.k = 1 ∧ ¬ (r.ms.l.length = 0 ∧ r.fr = 0 ∧ r.to = 0)) ∨ (¬ r.k = 1 ∧ 0 < r.ss.l.length)))) ∧ St B (cel g2 (rcc r) 33 :: (rdH r.ss.a r.ss.l.length 3 (r.ss.l.flatMap smc)) :: (rdH r.ms.a r.ms.l.length 3 (r.ms.l.flatMap mtc)) :: smsA r.ss.l :: recA r :: L) w) ?_ (fun K16 => ?_)
   ·
    rintro qq w17 ⟨⟨hqa, hqb⟩, hS17⟩
    clear hS1
    refine NX.go ?_
    refine WP.condB rfl (fun g17 => ?_) (fun g17 => ?_)
    ·
     have hb4 := hqa g17
     refine WP.seq (WP.region rfl ?_)
     refine WO.asg rfl rfl ?_
     refine WO.nil (NX.go (WP.ret (NX.blkRet (NX.thenRet ?_))))
     refine NX.done (l := [.tmp 2]) rfl rfl ?_
     refine ⟨congrArg (Value.int .i64) ?_, hS17.drop.drop.drop.drop⟩
     clear hS17
     unfold rcheck
     repeat split
     all_goals first | rfl | omega
    ·
     have hb4 := hqb g17
     refine WP.seq ?_
     refine WP.meet (α := Bool) (fun x => match x with | qq => [(1, Value.pointer (some ⟨g2, 0, none⟩)), (2, Value.int .i64 0), (3, Value.bool (decide (r.k = 1))), (45, Value.bool qq)]) (fun x w => match x with | qq => ((qq = true → r.k = 1 ∧ (r.ss.l.length < 1 ∨ 32 < r.ss.l.length)) ∧ (qq = false → ¬ (r.k = 1 ∧ (r.ss.l.length < 1 ∨ 32 < r.ss.l.length)))) ∧ St B (cel g2 (rcc r) 33 :: (rdH r.ss.a r.ss.l.length 3 (r.ss.l.flatMap smc)) :: (rdH r.ms.a r.ms.l.length 3 (r.ms.l.flatMap mtc)) :: smsA r.ss.l :: recA r :: L) w) ?_ (fun K18 => ?_)
     ·
      rintro qq w19 ⟨⟨hqc, hqd⟩, hS19⟩
      clear hS17
      refine NX.go ?_
      refine WP.condB rfl (fun g45 => ?_) (fun g45 => ?_)
      ·
       have hb6 := hqc g45
       refine WP.seq (WP.region rfl ?_)
       refine WO.asg rfl rfl ?_
       refine WO.nil (NX.go (WP.ret (NX.blkRet (NX.thenRet ?_))))
       refine NX.done (l := [.tmp 2]) rfl rfl ?_
       refine ⟨congrArg (Value.int .i64) ?_, hS19.drop.drop.drop.drop⟩
       clear hS19
       unfold rcheck
       repeat split
       all_goals first | rfl | omega
      ·
       have hb6 := hqd g45
       refine WP.skip (NX.blk ?_)
       exact K3 () _ _ ⟨by omega, hS19⟩ (Sub.cons rfl (Sub.nil _))
     ·
      refine WP.region rfl ?_
      refine WO.mv rfl rfl ?_
      refine WO.mv rfl rfl ?_
      refine dcase (p := r.k = 1) (fun g47 d47 => ?_) (fun g47 d47 => ?_)
      ·
       refine WO.on rfl rfl d47 ?_
       refine WO.V (run_fa 1 ⟨g2, 1, none⟩ rfl rfl) ?_
       refine WO.on rfl rfl d47 ?_
       refine WO.V (run_load Ty.ag31 rfl ((hS17.cel_at 0 rfl 1).trans rfl)) ?_
       refine WO.on rfl rfl d47 ?_
       refine WO.V (run_len rfl Tryz.underlying31 rfl) ?_
       refine WO.on rfl rfl d47 ?_
       refine WO.V (run_lss rfl rfl) ?_
       refine WO.on rfl rfl d47 ?_
       refine WO.mv rfl rfl ?_
       refine dcase (p := ((r.ss.l.length : Nat) : Int) < 1) (fun g52 d52 => ?_) (fun g52 d52 => ?_)
       ·
        refine WO.off rfl rfl d52 rfl ?_
        refine WO.off rfl rfl d52 rfl ?_
        refine WO.off rfl rfl d52 rfl ?_
        refine WO.off rfl rfl d52 rfl ?_
        refine WO.on rfl rfl d47 ?_
        refine WO.V (run_pickT rfl d52 rfl) ?_
        refine WO.V (run_pickT rfl d47 rfl) ?_
        refine WO.asg rfl rfl ?_
        refine WO.nil ?_
        exact K18 true _ _ ⟨⟨(fun _ => by omega), fun h => by cases h⟩, hS17⟩ (Sub.cons rfl (Sub.cons rfl (Sub.cons rfl (Sub.consE rfl (by first | rfl | first | rfl | (congr 1; omega) | (simp; done) | (simp; omega)) (Sub.nil _)))))
       ·
        refine WO.on rfl rfl d52 ?_
        refine WO.V (run_fa 1 ⟨g2, 1, none⟩ rfl rfl) ?_
        refine WO.on rfl rfl d52 ?_
        refine WO.V (run_load Ty.ag31 rfl ((hS17.cel_at 0 rfl 1).trans rfl)) ?_
        refine WO.on rfl rfl d52 ?_
        refine WO.V (run_len rfl Tryz.underlying31 rfl) ?_
        refine WO.on rfl rfl d52 ?_
        refine WO.V (run_gtr rfl rfl) ?_
        refine WO.on rfl rfl d47 ?_
        refine WO.V (run_pickF rfl d52 rfl) ?_
        refine WO.V (run_pickT rfl d47 rfl) ?_
        refine WO.asg rfl rfl ?_
        refine WO.nil ?_
        exact K18 (decide (32 < ((r.ss.l.length : Nat) : Int))) _ _ ⟨⟨(fun h => by have h9 := of_decide_eq_true h; omega), fun h => by have h9 := of_decide_eq_false h; omega⟩, hS17⟩ (Sub.cons rfl (Sub.cons rfl (Sub.cons rfl (Sub.consE rfl (by first | rfl | first | rfl | (congr 1; omega) | (simp; done) | (simp; omega)) (Sub.nil _)))))
      ·
       refine WO.off rfl rfl d47 rfl ?_
       refine WO.off rfl rfl d47 rfl ?_
       refine WO.off rfl rfl d47 rfl ?_
       refine WO.off rfl rfl d47 rfl ?_
       refine WO.off rfl rfl d47 rfl ?_
       refine WO.offU rfl rfl rfl ?_
       refine WO.offU rfl rfl rfl ?_
       refine WO.offU rfl rfl rfl ?_
       refine WO.offU rfl rfl rfl ?_
       refine WO.off rfl rfl d47 rfl ?_
       refine WO.V (run_pickF rfl d47 rfl) ?_
       refine WO.asg rfl rfl ?_
       refine WO.nil ?_
       exact K18 false _ _ ⟨⟨(fun h => by cases h), fun _ => by omega⟩, hS17⟩ (Sub.cons rfl (Sub.cons rfl (Sub.cons rfl (Sub.consE rfl (by first | rfl | first | rfl | (congr 1; omega) | (simp; done) | (simp; omega)) (Sub.nil _)))))
   ·
    refine WP.region rfl ?_
    refine WO.mv rfl rfl ?_
    refine WO.mv rfl rfl ?_
    refine dcase (p := r.k = 1) (fun g19 d19 => ?_) (fun g19 d19 => ?_)
    ·
     refine WO.on rfl rfl d19 ?_
     refine WO.V (run_fa 2 ⟨g2, 2, none⟩ rfl rfl) ?_
     refine WO.on rfl rfl d19 ?_
     refine WO.V (run_load Ty.ag24 rfl ((hS1.cel_at 0 rfl 2).trans rfl)) ?_
     refine WO.on rfl rfl d19 ?_
     refine WO.V (run_len rfl Tryz.underlying24 rfl) ?_
     refine WO.on rfl rfl d19 ?_
     refine WO.V (run_gtr rfl rfl) ?_
     refine WO.on rfl rfl d19 ?_
     refine WO.mv rfl rfl ?_
     refine dcase (p := 0 < ((r.ms.l.length : Nat) : Int)) (fun g24 d24 => ?_) (fun g24 d24 => ?_)
     ·
      refine WO.off rfl rfl d24 rfl ?_
      refine WO.off rfl rfl d24 rfl ?_
      refine WO.off rfl rfl d24 rfl ?_
      refine WO.on rfl rfl d19 ?_
      refine WO.V (run_pickT rfl d24 rfl) ?_
      refine WO.on rfl rfl d19 ?_
      refine WO.mv rfl rfl ?_
      refine WO.off rfl rfl rfl rfl ?_
      refine WO.off rfl rfl rfl rfl ?_
      refine WO.off rfl rfl rfl rfl ?_
      refine WO.on rfl rfl d19 ?_
      refine WO.V (run_pickT rfl rfl rfl) ?_
      refine WO.V (run_pickT rfl d19 rfl) ?_
      refine WO.mv rfl rfl ?_
      refine WO.off rfl rfl rfl rfl ?_
      refine WO.off rfl rfl rfl rfl ?_
      refine WO.off rfl rfl rfl rfl ?_
      refine WO.offU rfl rfl rfl ?_
      refine WO.offU rfl rfl rfl ?_
      refine WO.offU rfl rfl rfl ?_
      refine WO.offU rfl rfl rfl ?_
      refine WO.off rfl rfl rfl rfl ?_
      refine WO.V (run_pickT rfl rfl rfl) ?_
      refine WO.asg rfl rfl ?_
      refine WO.nil ?_
      exact K16 true _ _ ⟨⟨(fun _ => by omega), fun h => by cases h⟩, hS1⟩ (Sub.cons rfl (Sub.cons rfl (Sub.cons rfl (Sub.consE rfl (by first | rfl | first | rfl | (congr 1; omega) | (simp; done) | (simp; omega)) (Sub.nil _)))))
     ·
      refine WO.on rfl rfl d24 ?_
      refine WO.V (run_fa 3 ⟨g2, 3, none⟩ rfl rfl) ?_
      refine WO.on rfl rfl d24 ?_
      refine WO.V (run_load Ty.ag2 rfl ((hS1.cel_at 0 rfl 3).trans rfl)) ?_
      refine WO.on rfl rfl d24 ?_
      refine WO.V (run_neq rfl rfl) ?_
      refine WO.on rfl rfl d19 ?_
      refine WO.V (run_pickF rfl d24 rfl) ?_
      refine WO.on rfl rfl d19 ?_
      refine WO.mv rfl rfl ?_
      refine dcase (p := ¬ r.fr = 0) (fun g29 d29 => ?_) (fun g29 d29 => ?_)
      ·
       refine WO.off rfl rfl d29 rfl ?_
       refine WO.off rfl rfl d29 rfl ?_
       refine WO.off rfl rfl d29 rfl ?_
       refine WO.on rfl rfl d19 ?_
       refine WO.V (run_pickT rfl d29 rfl) ?_
       refine WO.V (run_pickT rfl d19 rfl) ?_
       refine WO.mv rfl rfl ?_
       refine WO.off rfl rfl rfl rfl ?_
       refine WO.off rfl rfl rfl rfl ?_
       refine WO.off rfl rfl rfl rfl ?_
       refine WO.offU rfl rfl rfl ?_
       refine WO.offU rfl rfl rfl ?_
       refine WO.offU rfl rfl rfl ?_
       refine WO.offU rfl rfl rfl ?_
       refine WO.off rfl rfl rfl rfl ?_
       refine WO.V (run_pickT rfl rfl rfl) ?_
       refine WO.asg rfl rfl ?_
       refine WO.nil ?_
       exact K16 true _ _ ⟨⟨(fun _ => by omega), fun h => by cases h⟩, hS1⟩ (Sub.cons rfl (Sub.cons rfl (Sub.cons rfl (Sub.consE rfl (by first | rfl | first | rfl | (congr 1; omega) | (simp; done) | (simp; omega)) (Sub.nil _)))))
      ·
       refine WO.on rfl rfl d29 ?_
       refine WO.V (run_fa 4 ⟨g2, 4, none⟩ rfl rfl) ?_
       refine WO.on rfl rfl d29 ?_
       refine WO.V (run_load Ty.ag2 rfl ((hS1.cel_at 0 rfl 4).trans rfl)) ?_
       refine WO.on rfl rfl d29 ?_
       refine WO.V (run_neq rfl rfl) ?_
       refine WO.on rfl rfl d19 ?_
       refine WO.V (run_pickF rfl d29 rfl) ?_
       refine WO.V (run_pickT rfl d19 rfl) ?_
       refine WO.mv rfl rfl ?_
       refine dcase (p := ¬ r.to = 0) (fun g35 d35 => ?_) (fun g35 d35 => ?_)
       ·
        refine WO.off rfl rfl d35 rfl ?_
        refine WO.off rfl rfl d35 rfl ?_
        refine WO.off rfl rfl d35 rfl ?_
        refine WO.offU rfl rfl rfl ?_
        refine WO.offU rfl rfl rfl ?_
        refine WO.offU rfl rfl rfl ?_
        refine WO.offU rfl rfl rfl ?_
        refine WO.off rfl rfl d35 rfl ?_
        refine WO.V (run_pickT rfl d35 rfl) ?_
        refine WO.asg rfl rfl ?_
        refine WO.nil ?_
        exact K16 true _ _ ⟨⟨(fun _ => by omega), fun h => by cases h⟩, hS1⟩ (Sub.cons rfl (Sub.cons rfl (Sub.cons rfl (Sub.consE rfl (by first | rfl | first | rfl | (congr 1; omega) | (simp; done) | (simp; omega)) (Sub.nil _)))))
       ·
        refine WO.on rfl rfl d35 ?_
        refine WO.mv rfl rfl ?_
        refine WO.on rfl rfl d35 ?_
        refine WO.V (run_notP rfl) ?_
        refine WO.on rfl rfl d35 ?_
        refine WO.mv rfl rfl ?_
        refine dcase (p := ¬ (r.k = 1)) (fun g38 d38 => ?_) (fun g38 d38 => ?_)
        ·
         refine WO.on rfl rfl d38 ?_
         refine WO.V (run_fa 1 ⟨g2, 1, none⟩ rfl rfl) ?_
         refine WO.on rfl rfl d38 ?_
         refine WO.V (run_load Ty.ag31 rfl ((hS1.cel_at 0 rfl 1).trans rfl)) ?_
         refine WO.on rfl rfl d38 ?_
         refine WO.V (run_len rfl Tryz.underlying31 rfl) ?_
         refine WO.on rfl rfl d38 ?_
         refine WO.V (run_gtr rfl rfl) ?_
         refine WO.on rfl rfl d35 ?_
         refine WO.V (run_pickT rfl d38 rfl) ?_
         refine WO.V (run_pickF rfl d35 rfl) ?_
         refine WO.asg rfl rfl ?_
         refine WO.nil ?_
         exact K16 (decide (0 < ((r.ss.l.length : Nat) : Int))) _ _ ⟨⟨(fun h => by have h9 := of_decide_eq_true h; omega), fun h => by have h9 := of_decide_eq_false h; omega⟩, hS1⟩ (Sub.cons rfl (Sub.cons rfl (Sub.cons rfl (Sub.consE rfl (by first | rfl | first | rfl | (congr 1; omega) | (simp; done) | (simp; omega)) (Sub.nil _)))))
        ·
         refine WO.off rfl rfl d38 rfl ?_
         refine WO.off rfl rfl d38 rfl ?_
         refine WO.off rfl rfl d38 rfl ?_
         refine WO.off rfl rfl d38 rfl ?_
         refine WO.on rfl rfl d35 ?_
         refine WO.V (run_pickF rfl d38 rfl) ?_
         refine WO.V (run_pickF rfl d35 rfl) ?_
         refine WO.asg rfl rfl ?_
         refine WO.nil ?_
         exact K16 false _ _ ⟨⟨(fun h => by cases h), fun _ => by omega⟩, hS1⟩ (Sub.cons rfl (Sub.cons rfl (Sub.cons rfl (Sub.consE rfl (by first | rfl | first | rfl | (congr 1; omega) | (simp; done) | (simp; omega)) (Sub.nil _)))))
    ·
     refine WO.off rfl rfl d19 rfl ?_
     refine WO.off rfl rfl d19 rfl ?_
     refine WO.off rfl rfl d19 rfl ?_
     refine WO.off rfl rfl d19 rfl ?_
     refine WO.off rfl rfl d19 rfl ?_
     refine WO.offU rfl rfl rfl ?_
     refine WO.offU rfl rfl rfl ?_
     refine WO.offU rfl rfl rfl ?_
     refine WO.off rfl rfl d19 rfl ?_
     refine WO.off rfl rfl d19 rfl ?_
     refine WO.offU rfl rfl rfl ?_
     refine WO.offU rfl rfl rfl ?_
     refine WO.offU rfl rfl rfl ?_
     refine WO.off rfl rfl d19 rfl ?_
     refine WO.V (run_pickF rfl d19 rfl) ?_
     refine WO.mv rfl rfl ?_
     refine WO.on rfl rfl rfl ?_
     refine WO.mv rfl rfl ?_
     refine WO.on rfl rfl rfl ?_
     refine WO.V (run_notP rfl) ?_
     refine WO.on rfl rfl rfl ?_
     refine WO.mv rfl rfl ?_
     refine dcase (p := ¬ (r.k = 1)) (fun g38 d38 => ?_) (fun g38 d38 => ?_)
     ·
      refine WO.on rfl rfl d38 ?_
      refine WO.V (run_fa 1 ⟨g2, 1, none⟩ rfl rfl) ?_
      refine WO.on rfl rfl d38 ?_
      refine WO.V (run_load Ty.ag31 rfl ((hS1.cel_at 0 rfl 1).trans rfl)) ?_
      refine WO.on rfl rfl d38 ?_
      refine WO.V (run_len rfl Tryz.underlying31 rfl) ?_
      refine WO.on rfl rfl d38 ?_
      refine WO.V (run_gtr rfl rfl) ?_
      refine WO.on rfl rfl rfl ?_
      refine WO.V (run_pickT rfl d38 rfl) ?_
      refine WO.V (run_pickF rfl rfl rfl) ?_
      refine WO.asg rfl rfl ?_
      refine WO.nil ?_
      exact K16 (decide (0 < ((r.ss.l.length : Nat) : Int))) _ _ ⟨⟨(fun h => by have h9 := of_decide_eq_true h; omega), fun h => by have h9 := of_decide_eq_false h; omega⟩, hS1⟩ (Sub.cons rfl (Sub.cons rfl (Sub.cons rfl (Sub.consE rfl (by first | rfl | first | rfl | (congr 1; omega) | (simp; done) | (simp; omega)) (Sub.nil _)))))
     ·
      refine WO.off rfl rfl d38 rfl ?_
      refine WO.off rfl rfl d38 rfl ?_
      refine WO.off rfl rfl d38 rfl ?_
      refine WO.off rfl rfl d38 rfl ?_
      refine WO.on rfl rfl rfl ?_
      refine WO.V (run_pickF rfl d38 rfl) ?_
      refine WO.V (run_pickF rfl rfl rfl) ?_
      refine WO.asg rfl rfl ?_
      refine WO.nil ?_
      exact K16 false _ _ ⟨⟨(fun h => by cases h), fun _ => by omega⟩, hS1⟩ (Sub.cons rfl (Sub.cons rfl (Sub.cons rfl (Sub.consE rfl (by first | rfl | first | rfl | (congr 1; omega) | (simp; done) | (simp; omega)) (Sub.nil _)))))
end Go.Proofs.YtidoidoelgfnaaaGreatDoor.SL

/- What is wrong with blocks: the reference. -/
namespace Go.Proofs.YtidoidoelgfnaaaGreatDoor.SL
open Go.RowKit Go.Proofs.YtidoidoelgfnaaaGreatDoor
open Go.Proofs.YtidoidoelgfnaaaGreatDoorW.PrintLast (rtab opsOf)
set_option linter.unusedVariables false
set_option linter.unusedSimpArgs false

def cmpV : Option MRow → MRow → Bool
  | none, _ => false
  | some q, u => decide (0 ≤ cmpF q.lb.l u.lb.l)
def tmV : Option Pt → Pt → Bool
  | none, _ => false
  | some q, p => decide (p.t ≤ q.t)
def ptsOk (last : Int) : Option Pt → List Pt → Bool
  | _, [] => true
  | pv, p :: l => !(decide (last < p.t) || tmV pv p) && ptsOk last (some p) l
def rowsGo : Option MRow → List MRow → Int
  | _, [] => 0
  | pv, r :: l => if chk r.lb.l = false then 16 else if cmpV pv r = true then 9 else if ptsOk r.last none r.pt.l = false then 9 else rowsGo (some r) l
def delsOk (l : List Rcd) : Bool := l.all fun r => decide (r.k = 2 ∧ rcheck r = 0)
def checkB (b : BlkV) : Int := if b.first < 1 ∨ 99999999 < b.to ∨ b.to < b.first then 2 else if ¬ rowsGo none b.rs.l = 0 then rowsGo none b.rs.l else if delsOk b.ds.l = true then 0 else 5
theorem rowsGo_chk : ∀ {l : List MRow} {pv : Option MRow}, rowsGo pv l = 0 → ∀ r ∈ l, chk r.lb.l = true
  | [], _, _, r, hr => by cases hr
  | u :: l, pv, h, r, hr => by
    rw [rowsGo] at h
    split at h
    · omega
    · rename_i hc
      split at h
      · omega
      · split at h
        · omega
        · rcases List.mem_cons.1 hr with e | hr
          · rw [e]; cases hq : chk u.lb.l with
            | true => rfl
            | false => exact absurd hq hc
          · exact rowsGo_chk h r hr
theorem checkB_chk {b : BlkV} (h : checkB b = 0) : ∀ r ∈ b.rs.l, chk r.lb.l = true := by
  unfold checkB at h
  split at h
  · omega
  · split at h
    · rename_i h1; exact absurd h h1
    · rename_i h1; exact rowsGo_chk (by simpa using h1)
theorem rowsGo_bad {pv : Option MRow} {u : MRow} {l : List MRow} (h : chk u.lb.l = false) : rowsGo pv (u :: l) = 16 := by rw [rowsGo, if_pos h]
theorem rowsGo_cmp {pv : Option MRow} {u : MRow} {l : List MRow} (h : chk u.lb.l = true) (h2 : cmpV pv u = true) : rowsGo pv (u :: l) = 9 := by rw [rowsGo, if_neg (by rw [h]; decide), if_pos h2]
theorem rowsGo_pts {pv : Option MRow} {u : MRow} {l : List MRow} (h : chk u.lb.l = true) (h2 : cmpV pv u = false) (h3 : ptsOk u.last none u.pt.l = false) : rowsGo pv (u :: l) = 9 := by rw [rowsGo, if_neg (by rw [h]; decide), if_neg (by rw [h2]; decide), if_pos h3]
theorem rowsGo_go {pv : Option MRow} {u : MRow} {l : List MRow} (h : chk u.lb.l = true) (h2 : cmpV pv u = false) (h3 : ptsOk u.last none u.pt.l = true) : rowsGo pv (u :: l) = rowsGo (some u) l := by rw [rowsGo, if_neg (by rw [h]; decide), if_neg (by rw [h2]; decide), if_neg (by rw [h3]; decide)]
theorem checkB_rows {b : BlkV} (h : ¬ (b.first < 1 ∨ 99999999 < b.to ∨ b.to < b.first)) {e : Int} (he : ¬ e = 0) (h2 : rowsGo none b.rs.l = e) : checkB b = e := by unfold checkB; rw [if_neg h, h2, if_pos he]
theorem checkB_dels {b : BlkV} (h : ¬ (b.first < 1 ∨ 99999999 < b.to ∨ b.to < b.first)) (h2 : rowsGo none b.rs.l = 0) : checkB b = if delsOk b.ds.l = true then 0 else 5 := by unfold checkB; rw [if_neg h, if_neg (by simp [h2])]
end Go.Proofs.YtidoidoelgfnaaaGreatDoor.SL

/- Greatest times: the reference; the program's blocks. -/
namespace Go.Proofs.YtidoidoelgfnaaaGreatDoor.SL
open Go.RowKit Go.Proofs.YtidoidoelgfnaaaGreatDoor
open Go.Proofs.YtidoidoelgfnaaaGreatDoorW.PrintLast (rtab opsOf)
set_option linter.unusedVariables false
set_option linter.unusedSimpArgs false

def rowsL : List RowP → List RowP → List RowP
  | [], S => S
  | r :: l, S => rowsL l (addF S r.lb r.last [])
def lastsA : List BlkP → List RowP → List RowP
  | [], S => S
  | b :: l, S => lastsA l (rowsL b.rows S)
end Go.Proofs.YtidoidoelgfnaaaGreatDoor.SL

/- Blocks that follow one another: the reference. -/
namespace Go.Proofs.YtidoidoelgfnaaaGreatDoor.SL
open Go.RowKit Go.Proofs.YtidoidoelgfnaaaGreatDoor
open Go.Proofs.YtidoidoelgfnaaaGreatDoorW.PrintLast (rtab opsOf)
set_option linter.unusedVariables false
set_option linter.unusedSimpArgs false

theorem checkB_to {b : BlkV} (h : checkB b = 0) : 1 ≤ b.first ∧ b.first ≤ b.to ∧ b.to ≤ 99999999 := by
  unfold checkB at h
  split at h
  · omega
  · omega
theorem wsum_ge : ∀ {l : List MRow}, (∀ r ∈ l, chk r.lb.l = true) → 10 * l.length + rsum l ≤ wsum l
  | [], _ => by simp [rsum, wsum]
  | r :: l, h => by
    have h1 := (chk_sz (h r (by simp))).2.1
    have h2 := wsum_ge (l := l) fun q hq => h q (by simp [hq])
    rw [List.length_cons, rsum, wsum]; omega
theorem tots {bs : List BlkV} (h : ∀ b ∈ bs, checkB b = 0) (hw : ∀ b ∈ bs, wgt b ≤ 1000000) : rtot bs ≤ 100000 * bs.length ∧ ptot bs ≤ 1000000 * bs.length ∧ dtot bs ≤ 1000000 * bs.length := by
  induction bs with
  | nil => simp [rtot, ptot, dtot]
  | cons b l ih =>
    have h1 := wsum_ge (checkB_chk (h b (by simp)))
    have h2 := hw b (by simp)
    have h3 := ih (fun q hq => h q (by simp [hq])) (fun q hq => hw q (by simp [hq]))
    unfold wgt at h2
    rw [rtot, ptot, dtot, List.length_cons]; omega
end Go.Proofs.YtidoidoelgfnaaaGreatDoor.SL

/- Blocks that follow one another: the reference, exactly. -/
namespace Go.Proofs.YtidoidoelgfnaaaGreatDoor.SL
open Go.RowKit Go.Proofs.YtidoidoelgfnaaaGreatDoor
open Go.Proofs.YtidoidoelgfnaaaGreatDoorW.PrintLast (rtab opsOf)
set_option linter.unusedVariables false
set_option linter.unusedSimpArgs false

def chkAll : List BlkV → Int
  | [] => 0
  | b :: l => if ¬ checkB b = 0 then checkB b else chkAll l
def clashP (A : List RowP) (r : RowP) : Bool := A.any fun q => decide (q.lb = r.lb) && (match r.pts.head? with | some p => decide (p.t ≤ q.last) | none => false)
def ordGo (nx : Int) (A : List RowP) : List BlkV → Int
  | [] => 0
  | b :: l => if ¬ b.first = nx then 9 else if b.rs.l.any (fun r => clashP A r.p) = true then 9 else ordGo (b.to + 1) (rowsL (b.rs.l.map MRow.p) A) l
def followV (bs : List BlkV) : Int := if ¬ chkAll bs = 0 then chkAll bs else ordGo 1 [] bs
theorem chkAll_zero : ∀ {l : List BlkV}, (∀ b ∈ l, checkB b = 0) → chkAll l = 0
  | [], _ => rfl
  | b :: l, h => by rw [chkAll, if_neg (by simp [h b (by simp)])]; exact chkAll_zero fun q hq => h q (by simp [hq])
theorem chkAll_at : ∀ {l : List BlkV} {i : Nat} {b : BlkV}, (∀ j q, j < i → l[j]? = some q → checkB q = 0) → l[i]? = some b → ¬ checkB b = 0 → chkAll l = checkB b
  | [], i, b, _, h, _ => by simp at h
  | c :: l, 0, b, _, h, hb => by simp at h; subst h; rw [chkAll, if_pos hb]
  | c :: l, i + 1, b, hz, h, hb => by
    rw [chkAll, if_neg (by simp [hz 0 c (by omega) rfl])]
    exact chkAll_at (fun j q hj hq => hz (j + 1) q (Nat.succ_lt_succ hj) (by simpa using hq)) (by simpa using h) hb
theorem chkAll_ok : ∀ {l : List BlkV}, chkAll l = 0 → ∀ b ∈ l, checkB b = 0
  | [], _, b, hb => by cases hb
  | c :: l, h, b, hb => by
    rw [chkAll] at h
    split at h
    · rename_i hc; exact absurd h hc
    · rename_i hc
      rcases List.mem_cons.1 hb with e | hb
      · rw [e]; simpa using hc
      · exact chkAll_ok h b hb
theorem rowsL_srt : ∀ {l S : List RowP}, SrtR S → SrtR (rowsL l S)
  | [], _, h => h
  | r :: l, S, h => by rw [rowsL]; exact rowsL_srt (addF_srt h)
theorem clash_nil {A : List RowP} {u : MRow} (h : u.pt.l = []) : clashP A u.p = false := by
  unfold clashP
  rw [List.any_eq_false]
  intro q _ hc
  rw [show u.p.pts = [] from h] at hc
  simp at hc
end Go.Proofs.YtidoidoelgfnaaaGreatDoor.SL
