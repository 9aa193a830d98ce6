import Derived.Test.YtidoidoelgfnaaaGreatDoorKg1M
import Derived.Test.YtidoidoelgfnaaaGreatDoorKrmM
/- What is wrong with labels, with records: the reference. -/
namespace Go.Proofs.YtidoidoelgfnaaaGreatDoor.SL
open Go.RowKit Go.Proofs.YtidoidoelgfnaaaGreatDoor
open Go.Proofs.YtidoidoelgfnaaaGreatDoorW.PrintLast (rtab opsOf)
set_option linter.unusedVariables false
set_option linter.unusedSimpArgs false

theorem gtS_of {a b : List UInt8} (h : (strLt a b || decide (a = b)) = false) : gtS a b = true := by unfold gtS; rw [h]; rfl
theorem gtS_not {a b : List UInt8} (h : (strLt a b || decide (a = b)) = true) : gtS a b = false := by unfold gtS; rw [h]; rfl
theorem t49_6 : rtab .any (opsOf Tryz.f49 6) = (true, [([], []), ([], []), ([0, 1], [0, 1]), ([2], [2]), ([3], [3]), ([4], [4]), ([5], [5]), ([6, 5], [6]), ([7], [7]), ([7], [7]), ([8, 9, 7], [7, 8, 9]), ([10, 7], [7, 10]), ([11, 7], [7, 11]), ([12, 7, 7], [7, 12]), ([13, 7], [7, 13]), ([7, 14], [7, 14]), ([15, 13], [15]), ([16], [16]), ([17, 16], [16, 17]), ([18, 16, 16], [16, 18]), ([19], [19]), ([19], [19]), ([20, 21, 19], [19, 20, 21]), ([22, 19], [19, 22]), ([23, 19], [19, 23]), ([19], [19]), ([19], [19]), ([26, 19], [19, 26]), ([25, 27, 19], [19, 25, 27]), ([28, 19], [19, 28]), ([29, 19], [19, 29]), ([24, 30, 19], [19, 24, 30]), ([19, 31, 16], [16, 19, 31]), ([16, 32], [16, 32])]) := by kernel_rfl
theorem rchk10_spec {B w : World} {L : List HP} {X : HP} {a : Option Addr} {cap : Nat} {l : List Pr} (hX : ∀ {L : List HP} {w : World}, St B (X :: L) w → Rd w a l.length 2 (l.flatMap prc)) (hb : SzP l) (hl : l.length ≤ 4398046511104) (hS : St B (X :: L) w) : Does Tryz.prog 49 [Value.slice a l.length cap] w (fun v w1 => v = .int .i64 (if chk l = true then 0 else 16) ∧ St B (X :: L) w1) := by
 refine enter (n := 52) Tryz.func49 rfl rfl [Value.slice a l.length cap] rfl ?_
 refine WP.seq (WP.region rfl ?_)
 refine WO.asg rfl rfl ?_
 refine WO.nil (NX.go (WP.seq (WP.seq (WP.region rfl ?_))))
 refine WO.mv rfl rfl ?_
 refine WO.V (run_len rfl Tryz.underlying65 rfl) ?_
 refine WO.V (run_lss rfl rfl) ?_
 refine WO.mv rfl rfl ?_
 refine dcase (p := ((l.length : Nat) : Int) < 1) (fun g7 d7 => ?_) (fun g7 d7 => ?_)
 ·
  refine WO.off rfl rfl d7 rfl ?_
  refine WO.off rfl rfl d7 rfl ?_
  refine WO.off rfl rfl d7 rfl ?_
  refine WO.V (run_pickT rfl d7 rfl) ?_
  refine WO.nil (NX.go ?_)
  refine WP.condT rfl rfl ?_
  refine WP.seq (WP.region rfl ?_)
  refine WO.asg rfl rfl ?_
  refine WO.nil (NX.go (WP.ret (NX.thenRet ?_)))
  refine NX.done (l := [.tmp 2]) rfl rfl ?_
  exact ⟨congrArg (Value.int .i64) (if_neg (by simp [chk]; intros; omega)).symm, hS⟩
 ·
  refine WO.on rfl rfl d7 ?_
  refine WO.mv rfl rfl ?_
  refine WO.on rfl rfl d7 ?_
  refine WO.V (run_len rfl Tryz.underlying65 rfl) ?_
  refine WO.on rfl rfl d7 ?_
  refine WO.V (run_gtr rfl rfl) ?_
  refine WO.V (run_pickF rfl d7 rfl) ?_
  refine WO.nil (NX.go ?_)
  refine WP.condP rfl (fun g11 => ?_) (fun g11 => ?_)
  ·
   refine WP.seq (WP.region rfl ?_)
   refine WO.asg rfl rfl ?_
   refine WO.nil (NX.go (WP.ret (NX.thenRet ?_)))
   refine NX.done (l := [.tmp 2]) rfl rfl ?_
   exact ⟨congrArg (Value.int .i64) (if_neg (by simp [chk]; intros; omega)).symm, hS⟩
  ·
   refine WP.skip (NX.go (WP.seq (WP.seq (WP.region rfl ?_))))
   refine WO.asg rfl rfl ?_
   refine WO.nil (NX.go (WP.block ?_))
   refine WP.loop (α := Nat × List UInt8) (fun x => match x with | ⟨i, last⟩ => [(0, Value.slice a l.length cap), (3, Value.int .i64 (i : Int))]) (fun x w => match x with | ⟨i, last⟩ => (i ≤ l.length ∧ (i = 0 → last = []) ∧ (∀ q, 0 < i → l[i - 1]? = some q → last = q.n) ∧ chkGo last (l.drop i) = chkGo [] l) ∧ St B (X :: L) w) (fun x => match x with | ⟨i, last⟩ => l.length - i) (0, []) ⟨⟨Nat.zero_le _, fun _ => rfl, fun q h => absurd h (by omega), rfl⟩, hS⟩ (Sub.cons rfl (Sub.consE rfl (by first | rfl | first | rfl | (congr 1; omega) | (simp; done) | (simp; omega)) (Sub.nil _))) ?_
   rintro ⟨i, last⟩ w1 ⟨⟨hi, hz, hq, hgo⟩, hS1⟩
   clear hS
   refine WP.seq (WP.seq (WP.region rfl ?_))
   refine WO.mv rfl rfl ?_
   refine WO.mv rfl rfl ?_
   refine WO.V (run_len rfl Tryz.underlying65 rfl) ?_
   refine WO.V (run_lss rfl rfl) ?_
   refine WO.nil (NX.go ?_)
   refine WP.condP rfl (fun g15 => ?_) (fun g15 => ?_)
   ·
    refine WP.skip (NX.go (WP.seq (WP.block (WP.seq ?_))))
    obtain ⟨p, hp⟩ : ∃ p, l[i]? = some p := ⟨_, List.getElem?_eq_getElem (by omega)⟩
    have hsa : a.isSome = true := rd_isSome (hX (hS1.focus 0 rfl)) (by omega)
    have hpz := hb p (List.mem_of_getElem? hp)
    have hqe : 0 < i → ∃ q, l[i - 1]? = some q := fun h => ⟨_, List.getElem?_eq_getElem (by omega)⟩
    refine WD.start (fun w => Rd w a l.length 2 (l.flatMap prc)) [] (bt 34 0) Ty.mo rfl (by kernel_rfl) hS1 (fun _ h => (hX (h.focus 0 rfl))) (fun w2 hS2 s3 => ?_)
    clear hS1
    refine DP (i := 0) t49_6 (bt 34 1) rfl rfl rfl rfl (fun w => run_move rfl) ?_
    refine DP (i := 1) t49_6 (bt 34 3) rfl rfl rfl rfl (fun w => run_move rfl) ?_
    refine DT (i := 2) t49_6 (bt 34 7) s3 rfl rfl rfl rfl (fun w hs => run_indexAddr (q := adr a (i * 2)) Tryz.underlying65 Ty.sz105 rfl rfl (by omega) (by omega) ((hs).2.1 (by omega)) rfl) ?_
    refine DP (i := 3) t49_6 (bt 34 15) rfl rfl rfl rfl (fun w => run_fa 0 (adr a (i * 2 + 0)) rfl (adr_add _ (by assumption) _ _)) ?_
    refine DT (i := 4) t49_6 (bt 34 31) s3 rfl rfl rfl rfl (fun w hs => run_load Ty.ag9 rfl ((hs).cell ((flat_get prc_len hp (j := 0) (by decide)).trans rfl))) ?_
    refine WD.one (i := 5) t49_6 (bt 34 63) rfl (by kernel_rfl) ?_
    refine WO.call rfl rfl Ty.hd83 rfl (rname_spec p.n (by omega) hS2) (fun v5 w4 pv5 => ?_)
    obtain ⟨rfl, hS4⟩ := pv5
    clear hS2
    refine WO.nil ?_
    have s6 : Rd w4 a l.length 2 (l.flatMap prc) := (hX (hS4.focus 0 rfl))
    refine NX.held s6 ?_
    refine DP (i := 6) t49_6 (bt 34 127) rfl rfl rfl rfl (fun w => run_not rfl rfl) ?_
    refine DP (i := 7) t49_6 (bt 34 255) rfl rfl rfl rfl (fun w => run_move rfl) ?_
    rcases Bool.eq_false_or_eq_true (!(nameF p.n)) with g25 | g25
    ·
     refine DO (i := 8) t49_6 (bt 34 511) rfl rfl rfl g25 rfl ?_
     refine DO (i := 9) t49_6 (bt 34 1023) rfl rfl rfl g25 rfl ?_
     refine DO (i := 10) t49_6 (bt 34 2047) rfl rfl rfl g25 rfl ?_
     refine DO (i := 11) t49_6 (bt 34 4095) rfl rfl rfl g25 rfl ?_
     refine DO (i := 12) t49_6 (bt 34 8191) rfl rfl rfl g25 rfl ?_
     refine DO (i := 13) t49_6 (bt 34 16383) rfl rfl rfl g25 rfl ?_
     refine DO (i := 14) t49_6 (bt 34 32767) rfl rfl rfl g25 rfl ?_
     refine DP (i := 15) t49_6 (bt 34 65535) rfl rfl rfl rfl (fun w => run_pickT rfl g25 rfl) ?_
     refine DP (i := 16) t49_6 (bt 34 131071) rfl rfl rfl rfl (fun w => run_move rfl) ?_
     refine DO (i := 17) t49_6 (bt 34 262143) rfl rfl rfl rfl rfl ?_
     refine DO (i := 18) t49_6 (bt 34 524287) rfl rfl rfl rfl rfl ?_
     refine DO (i := 19) t49_6 (bt 34 1048575) rfl rfl rfl rfl rfl ?_
     refine DU (i := 20) t49_6 (bt 34 2097151) rfl rfl rfl rfl ?_
     refine DU (i := 21) t49_6 (bt 34 4194303) rfl rfl rfl rfl ?_
     refine DU (i := 22) t49_6 (bt 34 8388607) rfl rfl rfl rfl ?_
     refine DU (i := 23) t49_6 (bt 34 16777215) rfl rfl rfl rfl ?_
     refine DU (i := 24) t49_6 (bt 34 33554431) rfl rfl rfl rfl ?_
     refine DU (i := 25) t49_6 (bt 34 67108863) rfl rfl rfl rfl ?_
     refine DU (i := 26) t49_6 (bt 34 134217727) rfl rfl rfl rfl ?_
     refine DU (i := 27) t49_6 (bt 34 268435455) rfl rfl rfl rfl ?_
     refine DU (i := 28) t49_6 (bt 34 536870911) rfl rfl rfl rfl ?_
     refine DU (i := 29) t49_6 (bt 34 1073741823) rfl rfl rfl rfl ?_
     refine DU (i := 30) t49_6 (bt 34 2147483647) rfl rfl rfl rfl ?_
     refine DU (i := 31) t49_6 (bt 34 4294967295) rfl rfl rfl rfl ?_
     refine DO (i := 32) t49_6 (bt 34 8589934591) rfl rfl rfl rfl rfl ?_
     refine DP (i := 33) t49_6 (bt 34 17179869183) rfl rfl rfl rfl (fun w => run_pickT rfl rfl rfl) ?_
     refine WD.done t49_6 (by kernel_rfl) ?_
     refine NX.go ?_
     refine WP.condT rfl rfl ?_
     refine WP.seq (WP.region rfl ?_)
     refine WO.asg rfl rfl ?_
     refine WO.nil (NX.go (WP.ret (NX.blkRet (NX.thenRet (NX.thenRet (NX.blkRet (NX.thenRet ?_)))))))
     refine NX.done (l := [.tmp 2]) rfl rfl ?_
     have hc : chkGo [] l = false := by rw [← hgo, drop_cons hp, chkGo]; simp at g25; rw [g25]; rfl
     exact ⟨congrArg (Value.int .i64) (if_neg (by simp [chk, hc])).symm, hS4⟩
    ·
     refine DPn (i := 8) t49_6 (bt 34 511) rfl rfl rfl g25 rfl (fun w => run_move rfl) ?_
     refine DPn (i := 9) t49_6 (bt 34 1023) rfl rfl rfl g25 rfl (fun w => run_move rfl) ?_
     refine DTn (i := 10) t49_6 (bt 34 2047) s6 rfl rfl rfl g25 rfl (fun w hs => run_indexAddr (q := adr a (i * 2)) Tryz.underlying65 Ty.sz105 rfl rfl (by omega) (by omega) ((hs).2.1 (by omega)) rfl) ?_
     refine DPn (i := 11) t49_6 (bt 34 4095) rfl rfl rfl g25 rfl (fun w => run_fa 1 (adr a (i * 2 + 1)) rfl (adr_add _ (by assumption) _ _)) ?_
     refine DTn (i := 12) t49_6 (bt 34 8191) s6 rfl rfl rfl g25 rfl (fun w hs => run_load Ty.ag9 rfl ((hs).cell ((flat_get prc_len hp (j := 1) (by decide)).trans rfl))) ?_
     refine WD.one (i := 13) t49_6 (bt 34 16383) rfl (by kernel_rfl) ?_
     refine WO.on rfl rfl g25 ?_
     refine WO.call rfl rfl Ty.hd84 rfl (rvalue_spec p.v (by omega) hS4) (fun v8 w7 pv8 => ?_)
     obtain ⟨rfl, hS7⟩ := pv8
     clear hS4
     refine WO.nil ?_
     have s9 : Rd w7 a l.length 2 (l.flatMap prc) := (hX (hS7.focus 0 rfl))
     refine NX.held s9 ?_
     refine DPn (i := 14) t49_6 (bt 34 32767) rfl rfl rfl g25 rfl (fun w => run_not rfl rfl) ?_
     refine DP (i := 15) t49_6 (bt 34 65535) rfl rfl rfl rfl (fun w => run_pickF rfl g25 rfl) ?_
     refine DP (i := 16) t49_6 (bt 34 131071) rfl rfl rfl rfl (fun w => run_move rfl) ?_
     rcases Bool.eq_false_or_eq_true (!(valueF p.v)) with g34 | g34
     ·
      refine DO (i := 17) t49_6 (bt 34 262143) rfl rfl rfl g34 rfl ?_
      refine DO (i := 18) t49_6 (bt 34 524287) rfl rfl rfl g34 rfl ?_
      refine DO (i := 19) t49_6 (bt 34 1048575) rfl rfl rfl g34 rfl ?_
      refine DU (i := 20) t49_6 (bt 34 2097151) rfl rfl rfl rfl ?_
      refine DU (i := 21) t49_6 (bt 34 4194303) rfl rfl rfl rfl ?_
      refine DU (i := 22) t49_6 (bt 34 8388607) rfl rfl rfl rfl ?_
      refine DU (i := 23) t49_6 (bt 34 16777215) rfl rfl rfl rfl ?_
      refine DU (i := 24) t49_6 (bt 34 33554431) rfl rfl rfl rfl ?_
      refine DU (i := 25) t49_6 (bt 34 67108863) rfl rfl rfl rfl ?_
      refine DU (i := 26) t49_6 (bt 34 134217727) rfl rfl rfl rfl ?_
      refine DU (i := 27) t49_6 (bt 34 268435455) rfl rfl rfl rfl ?_
      refine DU (i := 28) t49_6 (bt 34 536870911) rfl rfl rfl rfl ?_
      refine DU (i := 29) t49_6 (bt 34 1073741823) rfl rfl rfl rfl ?_
      refine DU (i := 30) t49_6 (bt 34 2147483647) rfl rfl rfl rfl ?_
      refine DU (i := 31) t49_6 (bt 34 4294967295) rfl rfl rfl rfl ?_
      refine DO (i := 32) t49_6 (bt 34 8589934591) rfl rfl rfl g34 rfl ?_
      refine DP (i := 33) t49_6 (bt 34 17179869183) rfl rfl rfl rfl (fun w => run_pickT rfl g34 rfl) ?_
      refine WD.done t49_6 (by kernel_rfl) ?_
      refine NX.go ?_
      refine WP.condT rfl rfl ?_
      refine WP.seq (WP.region rfl ?_)
      refine WO.asg rfl rfl ?_
      refine WO.nil (NX.go (WP.ret (NX.blkRet (NX.thenRet (NX.thenRet (NX.blkRet (NX.thenRet ?_)))))))
      refine NX.done (l := [.tmp 2]) rfl rfl ?_
      have hc : chkGo [] l = false := by rw [← hgo, drop_cons hp, chkGo]; simp at g34; rw [g34]; simp
      exact ⟨congrArg (Value.int .i64) (if_neg (by simp [chk, hc])).symm, hS7⟩
     ·
      refine DPn (i := 17) t49_6 (bt 34 262143) rfl rfl rfl g34 rfl (fun w => run_move rfl) ?_
      refine DPn (i := 18) t49_6 (bt 34 524287) rfl rfl rfl g34 rfl (fun w => run_gtr rfl rfl) ?_
      refine DPn (i := 19) t49_6 (bt 34 1048575) rfl rfl rfl g34 rfl (fun w => run_move rfl) ?_
      refine dcase (p := 0 < (i : Int)) (fun g37 d37 => ?_) (fun g37 d37 => ?_)
      ·
       obtain ⟨q, hq1⟩ := hqe (by omega)
       refine DPn (i := 20) t49_6 (bt 34 2097151) rfl rfl rfl d37 rfl (fun w => run_move rfl) ?_
       refine DPn (i := 21) t49_6 (bt 34 4194303) rfl rfl rfl d37 rfl (fun w => run_move rfl) ?_
       refine DTn (i := 22) t49_6 (bt 34 8388607) s9 rfl rfl rfl d37 rfl (fun w hs => run_indexAddr (q := adr a (i * 2)) Tryz.underlying65 Ty.sz105 rfl rfl (by omega) (by omega) ((hs).2.1 (by omega)) rfl) ?_
       refine DPn (i := 23) t49_6 (bt 34 16777215) rfl rfl rfl d37 rfl (fun w => run_fa 0 (adr a (i * 2 + 0)) rfl (adr_add _ (by assumption) _ _)) ?_
       refine DTn (i := 24) t49_6 (bt 34 33554431) s9 rfl rfl rfl d37 rfl (fun w hs => run_load Ty.ag9 rfl ((hs).cell ((flat_get prc_len hp (j := 0) (by decide)).trans rfl))) ?_
       refine DPn (i := 25) t49_6 (bt 34 67108863) rfl rfl rfl d37 rfl (fun w => run_move rfl) ?_
       refine DPn (i := 26) t49_6 (bt 34 134217727) rfl rfl rfl d37 rfl (fun w => run_move rfl) ?_
       refine DPn (i := 27) t49_6 (bt 34 268435455) rfl rfl rfl d37 rfl (fun w => run_sub rfl rfl (IntWalk.i64_in _ (by omega))) ?_
       refine DTn (i := 28) t49_6 (bt 34 536870911) s9 rfl rfl rfl d37 rfl (fun w hs => run_indexAddr (q := adr a ((i - 1) * 2)) Tryz.underlying65 Ty.sz105 rfl rfl (by omega) (by omega) ((hs).2.1 (by omega)) (by rw [show ((i : Int) - 1).toNat = i - 1 by omega])) ?_
       refine DPn (i := 29) t49_6 (bt 34 1073741823) rfl rfl rfl d37 rfl (fun w => run_fa 0 (adr a ((i - 1) * 2 + 0)) rfl (adr_add _ (by assumption) _ _)) ?_
       refine DTn (i := 30) t49_6 (bt 34 2147483647) s9 rfl rfl rfl d37 rfl (fun w hs => run_load Ty.ag9 rfl ((hs).cell ((flat_get prc_len hq1 (j := 0) (by decide)).trans rfl))) ?_
       refine DPn (i := 31) t49_6 (bt 34 4294967295) rfl rfl rfl d37 rfl (fun w => run_leqS rfl rfl) ?_
       refine DPn (i := 32) t49_6 (bt 34 8589934591) rfl rfl rfl g34 rfl (fun w => run_pickT rfl d37 rfl) ?_
       refine DP (i := 33) t49_6 (bt 34 17179869183) rfl rfl rfl rfl (fun w => run_pickF rfl g34 rfl) ?_
       refine WD.done t49_6 (by kernel_rfl) ?_
       refine NX.go ?_
       refine WP.condB rfl (fun g51 => ?_) (fun g51 => ?_)
       ·
        refine WP.seq (WP.region rfl ?_)
        refine WO.asg rfl rfl ?_
        refine WO.nil (NX.go (WP.ret (NX.blkRet (NX.thenRet (NX.thenRet (NX.blkRet (NX.thenRet ?_)))))))
        refine NX.done (l := [.tmp 2]) rfl rfl ?_
        have hc : chkGo [] l = false := by rw [← hgo, drop_cons hp, chkGo]; rw [hq q (by omega) hq1, gtS_not (by simpa using g51)]; simp
        exact ⟨congrArg (Value.int .i64) (if_neg (by simp [chk, hc])).symm, hS7⟩
       ·
        refine WP.skip (NX.blk (NX.go ?_))
        have hnv : (nameF p.n && valueF p.v) = true := by simp at g25 g34; rw [g25, g34]; rfl
        have hnm : nameF p.n = true := by simpa using g25
        have hgt : gtS p.n last = true := by rw [hq q (by omega) hq1]; exact gtS_of (by simpa using g51)
        refine WP.region rfl ?_
        refine WO.mv rfl rfl ?_
        refine WO.V (run_add rfl rfl (IntWalk.i64_in _ (by omega))) ?_
        refine WO.asg rfl rfl ?_
        refine WO.nil ?_
        exact NX.again (i + 1, p.n) ⟨⟨by omega, fun h => by omega, fun q _ h => by rw [Nat.add_sub_cancel, hp] at h; cases h; rfl, by rw [drop_cons hp, chkGo, hnv, hgt] at hgo; simpa using hgo⟩, hS7⟩ (by show l.length - (i + 1) < l.length - i; omega) (Sub.cons rfl (Sub.consE rfl (by congr 1) (Sub.nil _)))
      ·
       refine DO (i := 20) t49_6 (bt 34 2097151) rfl rfl rfl d37 rfl ?_
       refine DO (i := 21) t49_6 (bt 34 4194303) rfl rfl rfl d37 rfl ?_
       refine DO (i := 22) t49_6 (bt 34 8388607) rfl rfl rfl d37 rfl ?_
       refine DO (i := 23) t49_6 (bt 34 16777215) rfl rfl rfl d37 rfl ?_
       refine DO (i := 24) t49_6 (bt 34 33554431) rfl rfl rfl d37 rfl ?_
       refine DO (i := 25) t49_6 (bt 34 67108863) rfl rfl rfl d37 rfl ?_
       refine DO (i := 26) t49_6 (bt 34 134217727) rfl rfl rfl d37 rfl ?_
       refine DO (i := 27) t49_6 (bt 34 268435455) rfl rfl rfl d37 rfl ?_
       refine DO (i := 28) t49_6 (bt 34 536870911) rfl rfl rfl d37 rfl ?_
       refine DO (i := 29) t49_6 (bt 34 1073741823) rfl rfl rfl d37 rfl ?_
       refine DO (i := 30) t49_6 (bt 34 2147483647) rfl rfl rfl d37 rfl ?_
       refine DO (i := 31) t49_6 (bt 34 4294967295) rfl rfl rfl d37 rfl ?_
       refine DPn (i := 32) t49_6 (bt 34 8589934591) rfl rfl rfl g34 rfl (fun w => run_pickF rfl d37 rfl) ?_
       refine DP (i := 33) t49_6 (bt 34 17179869183) rfl rfl rfl rfl (fun w => run_pickF rfl g34 rfl) ?_
       refine WD.done t49_6 (by kernel_rfl) ?_
       refine NX.go ?_
       refine WP.condF rfl rfl ?_
       refine WP.skip (NX.blk (NX.go ?_))
       have hnv : (nameF p.n && valueF p.v) = true := by simp at g25 g34; rw [g25, g34]; rfl
       have hnm : nameF p.n = true := by simpa using g25
       have hgt : gtS p.n last = true := by rw [hz (by omega)]; exact gt_nil (nameF_ne hnm)
       refine WP.region rfl ?_
       refine WO.mv rfl rfl ?_
       refine WO.V (run_add rfl rfl (IntWalk.i64_in _ (by omega))) ?_
       refine WO.asg rfl rfl ?_
       refine WO.nil ?_
       exact NX.again (i + 1, p.n) ⟨⟨by omega, fun h => by omega, fun q _ h => by rw [Nat.add_sub_cancel, hp] at h; cases h; rfl, by rw [drop_cons hp, chkGo, hnv, hgt] at hgo; simpa using hgo⟩, hS7⟩ (by show l.length - (i + 1) < l.length - i; omega) (Sub.cons rfl (Sub.consE rfl (by congr 1) (Sub.nil _)))
   ·
    refine WP.exit (NX.thenExit (NX.thenExit ?_))
    refine NX.blkExit ?_
    refine NX.go (WP.seq (WP.region rfl ?_))
    refine WO.asg rfl rfl ?_
    refine WO.nil (NX.go (WP.ret ?_))
    refine NX.done (l := [.tmp 2]) rfl rfl ?_
    have hc : chk l = true := by unfold chk; rw [← hgo, List.drop_of_length_le (by omega)]; simp [chkGo]; omega
    exact ⟨congrArg (Value.int .i64) (if_pos hc).symm, hS1⟩

theorem rcheck_commit {r : Rcd} (h1 : r.k = 1) (h2 : r.ms.l.length = 0) (h3 : r.fr = 0) (h4 : r.to = 0) (h5 : 1 ≤ r.ss.l.length) (h6 : r.ss.l.length ≤ 32) : rcheck r = if smsGo r.ss.l = true then 0 else 16 := by
  unfold rcheck; rw [if_pos h1, if_neg (by simp [h2, h3, h4]), if_neg (by simp [h5, h6])]
theorem rcheck_del {r : Rcd} (h1 : r.k = 2) (h2 : r.ss.l.length = 0) : rcheck r = if ¬ mchk r.ms.l = 0 then mchk r.ms.l else if r.fr ≤ r.to then 0 else 9 := by
  unfold rcheck; rw [if_neg (by omega), if_pos h1, if_neg (by simp [h2])]
set_option maxHeartbeats 1000000 in
theorem r12chk_spec {B w : World} {L : List HP} (r : Rcd) (hz : SzR r) (hS : St B (recA r :: L) w) : Does Tryz.prog 15 [Value.agg #[Value.int .i64 r.k, Value.slice r.ss.a r.ss.l.length r.ss.cap, Value.slice r.ms.a r.ms.l.length r.ms.cap, Value.int .i64 r.fr, Value.int .i64 r.to]] w (fun v w1 => v = .int .i64 (rcheck r) ∧ St B (recA r :: L) w1) := by
 replace hS := recA_open hS
 have hns := hz.ns
 have hnm := hz.nm
 refine enter (n := 87) Tryz.func15 rfl rfl [Value.agg #[Value.int .i64 r.k, Value.slice r.ss.a r.ss.l.length r.ss.cap, Value.slice r.ms.a r.ms.l.length r.ms.cap, Value.int .i64 r.fr, Value.int .i64 r.to]] rfl ?_
 refine WP.seq (WP.region rfl ?_)
 refine WO.box (l := (rcc r)) hS rfl rfl rfl (fun g2 w1 lg2 hS1 => ?_)
 clear hS
 refine WO.asg rfl rfl ?_
 refine WO.nil (NX.go (WP.seq (WP.region rfl ?_)))
 refine WO.V (run_fa 0 ⟨g2, 0, none⟩ rfl rfl) ?_
 refine WO.V (run_load Ty.ag3 rfl ((hS1.cel_at 0 rfl 0).trans rfl)) ?_
 refine WO.V (run_eql rfl rfl) ?_
 refine WO.asg rfl rfl ?_
 refine WO.nil (NX.go (WP.seq ?_))
 refine WP.meet (α := Unit) (fun x => match x with | _ => [(1, Value.pointer (some ⟨g2, 0, none⟩))]) (fun x w => match x with | _ => ((r.k = 1 ∧ r.ms.l.length = 0 ∧ r.fr = 0 ∧ r.to = 0 ∧ 1 ≤ r.ss.l.length ∧ r.ss.l.length ≤ 32) ∨ (r.k = 2 ∧ r.ss.l.length = 0)) ∧ St B (cel g2 (rcc r) 33 :: (rdH r.ss.a r.ss.l.length 3 (r.ss.l.flatMap smc)) :: (rdH r.ms.a r.ms.l.length 3 (r.ms.l.flatMap mtc)) :: smsA r.ss.l :: recA r :: L) w) ?_ (fun K3 => ?_)
 ·
  rintro _ w4 ⟨hok, hS4⟩
  clear hS1
  refine NX.go (WP.seq (WP.seq (WP.region rfl ?_)))
  refine WO.asg rfl rfl ?_
  refine WO.nil (NX.go (WP.block ?_))
  refine WP.loop (α := Nat) (fun x => match x with | i => [(1, Value.pointer (some ⟨g2, 0, none⟩)), (4, Value.int .i64 (i : Int))]) (fun x w => match x with | i => (i ≤ r.ss.l.length ∧ smsGo (r.ss.l.drop i) = smsGo r.ss.l) ∧ St B (cel g2 (rcc r) 33 :: (rdH r.ss.a r.ss.l.length 3 (r.ss.l.flatMap smc)) :: (rdH r.ms.a r.ms.l.length 3 (r.ms.l.flatMap mtc)) :: smsA r.ss.l :: recA r :: L) w) (fun x => match x with | i => r.ss.l.length - i) 0 ⟨⟨Nat.zero_le _, rfl⟩, hS4⟩ (Sub.cons rfl (Sub.consE rfl (by first | rfl | first | rfl | (congr 1; omega) | (simp; done) | (simp; omega)) (Sub.nil _))) ?_
  rintro i w5 ⟨⟨hi, hgo⟩, hS5⟩
  clear hS4
  refine WP.seq (WP.seq (WP.region rfl ?_))
  refine WO.mv rfl rfl ?_
  refine WO.V (run_fa 1 ⟨g2, 1, none⟩ rfl rfl) ?_
  refine WO.V (run_load Ty.ag31 rfl ((hS5.cel_at 0 rfl 1).trans rfl)) ?_
  refine WO.V (run_len rfl Tryz.underlying31 rfl) ?_
  refine WO.V (run_lss rfl rfl) ?_
  refine WO.nil (NX.go ?_)
  refine WP.condP rfl (fun g63 => ?_) (fun g63 => ?_)
  ·
   refine WP.skip (NX.go (WP.seq (WP.block (WP.seq ?_))))
   obtain ⟨z, hz1⟩ : ∃ qq, r.ss.l[i]? = some qq := ⟨_, List.getElem?_eq_getElem (by omega)⟩
   have hsa : r.ss.a.isSome = true := rd_isSome ((rdH_rd (hS5.focus 1 rfl))) (by omega)
   have hS6 := smsA_get hz1 (hS5.permT [3] (L' := smsA r.ss.l :: cel g2 (rcc r) 33 :: (rdH r.ss.a r.ss.l.length 3 (r.ss.l.flatMap smc)) :: (rdH r.ms.a r.ms.l.length 3 (r.ms.l.flatMap mtc)) :: recA r :: L) rfl)
   clear hS5
   have hzz := hz.s z (List.mem_of_getElem? hz1)
   refine WP.region rfl ?_
   refine WO.V (run_fa 1 ⟨g2, 1, none⟩ rfl rfl) ?_
   refine WO.V (run_load Ty.ag31 rfl ((hS6.cel_at 2 rfl 1).trans rfl)) ?_
   refine WO.mv rfl rfl ?_
   refine WO.V (run_indexAddr (q := adr r.ss.a (i * 3)) Tryz.underlying31 Ty.sz83 rfl rfl (by omega) (by omega) ((rdH_rd (hS6.focus 3 rfl)).2.1 (by omega)) rfl) ?_
   refine WO.V (run_fa 0 (adr r.ss.a (i * 3 + 0)) rfl (adr_add _ (by assumption) _ _)) ?_
   refine WO.V (run_load Ty.ag65 rfl ((rdH_rd (hS6.focus 3 rfl)).cell ((flat_get smc_len hz1 (j := 0) (by decide)).trans rfl))) ?_
   refine WO.call rfl rfl Ty.hd49 rfl (rchk10_spec rdH_rd hzz.2 hzz.1 hS6) (fun v8 w7 pv8 => ?_)
   obtain ⟨rfl, hS7⟩ := pv8
   clear hS6
   refine WO.V (run_neq rfl rfl) ?_
   refine WO.nil (NX.go ?_)
   refine WP.condP rfl (fun g73 => ?_) (fun g73 => ?_)
   ·
    have hck : chk z.lb.l = false := by cases hq : chk z.lb.l with | false => rfl | true => (rw [hq] at g73; exact absurd rfl g73)
    refine WP.seq (WP.region rfl ?_)
    refine WO.asg rfl rfl ?_
    refine WO.nil (NX.go (WP.ret (NX.blkRet (NX.thenRet (NX.thenRet (NX.blkRet (NX.thenRet ?_)))))))
    refine NX.done (l := [.tmp 2]) rfl rfl ?_
    have hsg : smsGo r.ss.l = false := by rw [← hgo, drop_cons hz1, smsGo, hck]; rfl
    refine ⟨congrArg (Value.int .i64) ?_, hS7.drop.drop.drop.drop.drop⟩
    clear hS7
    rcases hok with ⟨a1, a2, a3, a4, a5, a6⟩ | ⟨a1, a2⟩
    · rw [rcheck_commit a1 a2 a3 a4 a5 a6, hsg]; rfl
    · omega
   ·
    have hck : chk z.lb.l = true := by cases hq : chk z.lb.l with | true => rfl | false => (rw [hq] at g73; exact absurd (by decide) g73)
    refine WP.skip (NX.blk (NX.go (WP.region rfl ?_)))
    refine WO.mv rfl rfl ?_
    refine WO.V (run_add rfl rfl (IntWalk.i64_in _ (by omega))) ?_
    refine WO.asg rfl rfl ?_
    refine WO.nil ?_
    exact NX.again (i + 1) ⟨⟨by omega, by rw [← hgo, drop_cons hz1, smsGo, hck, Bool.true_and]⟩, (hS7.permT [0, 1, 1, 1] (L' := (labA z.lb) :: cel g2 (rcc r) 33 :: (rdH r.ss.a r.ss.l.length 3 (r.ss.l.flatMap smc)) :: (rdH r.ms.a r.ms.l.length 3 (r.ms.l.flatMap mtc)) :: smsA r.ss.l :: recA r :: L) rfl).drop⟩ (by show r.ss.l.length - (i + 1) < r.ss.l.length - i; omega) (Sub.cons rfl (Sub.consE rfl (by congr 1) (Sub.nil _)))
  ·
   refine WP.exit (NX.thenExit (NX.thenExit ?_))
   refine NX.blkExit ?_
   refine NX.go (WP.seq (WP.region rfl ?_))
   refine WO.V (run_fa 2 ⟨g2, 2, none⟩ rfl rfl) ?_
   refine WO.V (run_load Ty.ag24 rfl ((hS5.cel_at 0 rfl 2).trans rfl)) ?_
   have hS9 := hS5.permT [2] (L' := (rdH r.ms.a r.ms.l.length 3 (r.ms.l.flatMap mtc)) :: cel g2 (rcc r) 33 :: (rdH r.ss.a r.ss.l.length 3 (r.ss.l.flatMap smc)) :: smsA r.ss.l :: recA r :: L) rfl
   clear hS5
   refine WO.call rfl rfl Ty.hd50 rfl (rcheckm_spec rdH_rd hz.m hz.nm2 hS9) (fun v11 w10 pv11 => ?_)
   obtain ⟨rfl, hS10⟩ := pv11
   clear hS9
   refine WO.asg rfl rfl ?_
   refine WO.nil (NX.go (WP.seq (WP.seq (WP.region rfl ?_))))
   refine WO.mv rfl rfl ?_
   refine WO.V (run_eql rfl rfl) ?_
   refine WO.mv rfl rfl ?_
   refine dcase (p := (mchk r.ms.l) = 0) (fun g79 d79 => ?_) (fun g79 d79 => ?_)
   ·
    refine WO.on rfl rfl d79 ?_
    refine WO.V (run_fa 3 ⟨g2, 3, none⟩ rfl rfl) ?_
    refine WO.on rfl rfl d79 ?_
    refine WO.V (run_load Ty.ag2 rfl ((hS10.cel_at 1 rfl 3).trans rfl)) ?_
    refine WO.on rfl rfl d79 ?_
    refine WO.V (run_fa 4 ⟨g2, 4, none⟩ rfl rfl) ?_
    refine WO.on rfl rfl d79 ?_
    refine WO.V (run_load Ty.ag2 rfl ((hS10.cel_at 1 rfl 4).trans rfl)) ?_
    refine WO.on rfl rfl d79 ?_
    refine WO.V (run_gtr rfl rfl) ?_
    refine WO.V (run_pickT rfl d79 rfl) ?_
    refine WO.nil (NX.go ?_)
    refine WP.condP rfl (fun g85 => ?_) (fun g85 => ?_)
    ·
     refine WP.region rfl ?_
     refine WO.asg rfl rfl ?_
     refine WO.nil (NX.go (WP.seq (WP.region rfl ?_)))
     refine WO.mv rfl rfl ?_
     refine WO.asg rfl rfl ?_
     refine WO.nil (NX.go (WP.ret ?_))
     refine NX.done (l := [.tmp 2]) rfl rfl ?_
     have hsg : smsGo r.ss.l = true := by rw [← hgo, List.drop_of_length_le (by omega)]; rfl
     have hm0 : r.ms.l.length = 0 → mchk r.ms.l = 0 := fun h => by rw [List.length_eq_zero_iff.1 h]; rfl
     refine ⟨congrArg (Value.int .i64) ?_, hS10.drop.drop.drop.drop⟩
     clear hS10
     rcases hok with ⟨a1, a2, a3, a4, a5, a6⟩ | ⟨a1, a2⟩
     · omega
     · rw [rcheck_del a1 a2, if_neg (by simp [g79]), if_neg (by omega)]
    ·
     refine WP.skip (NX.go (WP.seq (WP.region rfl ?_)))
     refine WO.mv rfl rfl ?_
     refine WO.asg rfl rfl ?_
     refine WO.nil (NX.go (WP.ret ?_))
     refine NX.done (l := [.tmp 2]) rfl rfl ?_
     have hsg : smsGo r.ss.l = true := by rw [← hgo, List.drop_of_length_le (by omega)]; rfl
     have hm0 : r.ms.l.length = 0 → mchk r.ms.l = 0 := fun h => by rw [List.length_eq_zero_iff.1 h]; rfl
     refine ⟨congrArg (Value.int .i64) ?_, hS10.drop.drop.drop.drop⟩
     clear hS10
     rcases hok with ⟨a1, a2, a3, a4, a5, a6⟩ | ⟨a1, a2⟩
     · rw [rcheck_commit a1 a2 a3 a4 a5 a6, hsg, g79]; rfl
     · rw [rcheck_del a1 a2, if_neg (by simp [g79]), if_pos (by omega), g79]
   ·
    refine WO.off rfl rfl d79 rfl ?_
    refine WO.off rfl rfl d79 rfl ?_
    refine WO.off rfl rfl d79 rfl ?_
    refine WO.off rfl rfl d79 rfl ?_
    refine WO.off rfl rfl d79 rfl ?_
    refine WO.V (run_pickF rfl d79 rfl) ?_
    refine WO.nil (NX.go ?_)
    refine WP.condF rfl rfl ?_
    refine WP.skip (NX.go (WP.seq (WP.region rfl ?_)))
    refine WO.mv rfl rfl ?_
    refine WO.asg rfl rfl ?_
    refine WO.nil (NX.go (WP.ret ?_))
    refine NX.done (l := [.tmp 2]) rfl rfl ?_
    have hsg : smsGo r.ss.l = true := by rw [← hgo, List.drop_of_length_le (by omega)]; rfl
    have hm0 : r.ms.l.length = 0 → mchk r.ms.l = 0 := fun h => by rw [List.length_eq_zero_iff.1 h]; rfl
    refine ⟨congrArg (Value.int .i64) ?_, hS10.drop.drop.drop.drop⟩
    clear hS10
    rcases hok with ⟨a1, a2, a3, a4, a5, a6⟩ | ⟨a1, a2⟩
    · exact absurd (hm0 a2) g79
    · rw [rcheck_del a1 a2, if_pos g79]
 ·
  refine WP.block (WP.seq (WP.region rfl ?_))
  refine WO.mv rfl rfl ?_
  refine WO.V (run_notP rfl) ?_
  refine WO.mv rfl rfl ?_
  refine dcase (p := ¬ (r.k = 1)) (fun g12 d12 => ?_) (fun g12 d12 => ?_)
  ·
   refine WO.on rfl rfl d12 ?_
   refine WO.V (run_fa 0 ⟨g2, 0, none⟩ rfl rfl) ?_
   refine WO.on rfl rfl d12 ?_
   refine WO.V (run_load Ty.ag3 rfl ((hS1.cel_at 0 rfl 0).trans rfl)) ?_
   refine WO.on rfl rfl d12 ?_
   refine WO.V (run_neq rfl rfl) ?_
   refine WO.V (run_pickT rfl d12 rfl) ?_
   refine WO.asg rfl rfl ?_
   refine WO.nil (NX.go ?_)
   refine WP.condP rfl (fun g9 => ?_) (fun g9 => ?_)
   ·
    refine WP.seq (WP.region rfl ?_)
    refine WO.asg rfl rfl ?_
    refine WO.nil (NX.go (WP.ret (NX.blkRet (NX.thenRet ?_))))
    refine NX.done (l := [.tmp 2]) rfl rfl ?_
    refine ⟨congrArg (Value.int .i64) ?_, hS1.drop.drop.drop.drop⟩
    clear hS1
    unfold rcheck
    repeat split
    all_goals first | rfl | omega
   ·
    refine WP.seq (WP.region rfl ?_)
    refine WO.mv rfl rfl ?_
    refine WO.mv rfl rfl ?_
    refine dcase (p := r.k = 1) (fun g19 d19 => ?_) (fun g19 d19 => ?_)
    ·
     refine WO.on rfl rfl d19 ?_
     refine WO.V (run_fa 2 ⟨g2, 2, none⟩ rfl rfl) ?_
     refine WO.on rfl rfl d19 ?_
     refine WO.V (run_load Ty.ag24 rfl ((hS1.cel_at 0 rfl 2).trans rfl)) ?_
     refine WO.on rfl rfl d19 ?_
     refine WO.V (run_len rfl Tryz.underlying24 rfl) ?_
     refine WO.on rfl rfl d19 ?_
     refine WO.V (run_gtr rfl rfl) ?_
     refine WO.on rfl rfl d19 ?_
     refine WO.mv rfl rfl ?_
     refine dcase (p := 0 < ((r.ms.l.length : Nat) : Int)) (fun g24 d24 => ?_) (fun g24 d24 => ?_)
     ·
      refine WO.off rfl rfl d24 rfl ?_
      refine WO.off rfl rfl d24 rfl ?_
      refine WO.off rfl rfl d24 rfl ?_
      refine WO.on rfl rfl d19 ?_
      refine WO.V (run_pickT rfl d24 rfl) ?_
      refine WO.on rfl rfl d19 ?_
      refine WO.mv rfl rfl ?_
      refine WO.off rfl rfl rfl rfl ?_
      refine WO.off rfl rfl rfl rfl ?_
      refine WO.off rfl rfl rfl rfl ?_
      refine WO.on rfl rfl d19 ?_
      refine WO.V (run_pickT rfl rfl rfl) ?_
      refine WO.V (run_pickT rfl d19 rfl) ?_
      refine WO.mv rfl rfl ?_
      refine WO.off rfl rfl rfl rfl ?_
      refine WO.off rfl rfl rfl rfl ?_
      refine WO.off rfl rfl rfl rfl ?_
      refine WO.offU rfl rfl rfl ?_
      refine WO.offU rfl rfl rfl ?_
      refine WO.offU rfl rfl rfl ?_
      refine WO.offU rfl rfl rfl ?_
      refine WO.off rfl rfl rfl rfl ?_
      refine WO.V (run_pickT rfl rfl rfl) ?_
      refine WO.asg rfl rfl ?_
      refine WO.nil (NX.go ?_)
      refine WP.condT rfl rfl ?_
      refine WP.seq (WP.region rfl ?_)
      refine WO.asg rfl rfl ?_
      refine WO.nil (NX.go (WP.ret (NX.blkRet (NX.thenRet ?_))))
      refine NX.done (l := [.tmp 2]) rfl rfl ?_
      refine ⟨congrArg (Value.int .i64) ?_, hS1.drop.drop.drop.drop⟩
      clear hS1
      unfold rcheck
      repeat split
      all_goals first | rfl | omega
     ·
      refine WO.on rfl rfl d24 ?_
      refine WO.V (run_fa 3 ⟨g2, 3, none⟩ rfl rfl) ?_
      refine WO.on rfl rfl d24 ?_
      refine WO.V (run_load Ty.ag2 rfl ((hS1.cel_at 0 rfl 3).trans rfl)) ?_
      refine WO.on rfl rfl d24 ?_
      refine WO.V (run_neq rfl rfl) ?_
      refine WO.on rfl rfl d19 ?_
      refine WO.V (run_pickF rfl d24 rfl) ?_
      refine WO.on rfl rfl d19 ?_
      refine WO.mv rfl rfl ?_
      refine dcase (p := ¬ r.fr = 0) (fun g29 d29 => ?_) (fun g29 d29 => ?_)
      ·
       refine WO.off rfl rfl d29 rfl ?_
       refine WO.off rfl rfl d29 rfl ?_
       refine WO.off rfl rfl d29 rfl ?_
       refine WO.on rfl rfl d19 ?_
       refine WO.V (run_pickT rfl d29 rfl) ?_
       refine WO.V (run_pickT rfl d19 rfl) ?_
       refine WO.mv rfl rfl ?_
       refine WO.off rfl rfl rfl rfl ?_
       refine WO.off rfl rfl rfl rfl ?_
       refine WO.off rfl rfl rfl rfl ?_
       refine WO.offU rfl rfl rfl ?_
       refine WO.offU rfl rfl rfl ?_
       refine WO.offU rfl rfl rfl ?_
       refine WO.offU rfl rfl rfl ?_
       refine WO.off rfl rfl rfl rfl ?_
       refine WO.V (run_pickT rfl rfl rfl) ?_
       refine WO.asg rfl rfl ?_
       refine WO.nil (NX.go ?_)
       refine WP.condT rfl rfl ?_
       refine WP.seq (WP.region rfl ?_)
       refine WO.asg rfl rfl ?_
       refine WO.nil (NX.go (WP.ret (NX.blkRet (NX.thenRet ?_))))
       refine NX.done (l := [.tmp 2]) rfl rfl ?_
       refine ⟨congrArg (Value.int .i64) ?_, hS1.drop.drop.drop.drop⟩
       clear hS1
       unfold rcheck
       repeat split
       all_goals first | rfl | omega
      ·
       refine WO.on rfl rfl d29 ?_
       refine WO.V (run_fa 4 ⟨g2, 4, none⟩ rfl rfl) ?_
       refine WO.on rfl rfl d29 ?_
       refine WO.V (run_load Ty.ag2 rfl ((hS1.cel_at 0 rfl 4).trans rfl)) ?_
       refine WO.on rfl rfl d29 ?_
       refine WO.V (run_neq rfl rfl) ?_
       refine WO.on rfl rfl d19 ?_
       refine WO.V (run_pickF rfl d29 rfl) ?_
       refine WO.V (run_pickT rfl d19 rfl) ?_
       refine WO.mv rfl rfl ?_
       refine dcase (p := ¬ r.to = 0) (fun g35 d35 => ?_) (fun g35 d35 => ?_)
       ·
        refine WO.off rfl rfl d35 rfl ?_
        refine WO.off rfl rfl d35 rfl ?_
        refine WO.off rfl rfl d35 rfl ?_
        refine WO.offU rfl rfl rfl ?_
        refine WO.offU rfl rfl rfl ?_
        refine WO.offU rfl rfl rfl ?_
        refine WO.offU rfl rfl rfl ?_
        refine WO.off rfl rfl d35 rfl ?_
        refine WO.V (run_pickT rfl d35 rfl) ?_
        refine WO.asg rfl rfl ?_
        refine WO.nil (NX.go ?_)
        refine WP.condT rfl rfl ?_
        refine WP.seq (WP.region rfl ?_)
        refine WO.asg rfl rfl ?_
        refine WO.nil (NX.go (WP.ret (NX.blkRet (NX.thenRet ?_))))
        refine NX.done (l := [.tmp 2]) rfl rfl ?_
        refine ⟨congrArg (Value.int .i64) ?_, hS1.drop.drop.drop.drop⟩
        clear hS1
        unfold rcheck
        repeat split
        all_goals first | rfl | omega
       ·
        refine WO.on rfl rfl d35 ?_
        refine WO.mv rfl rfl ?_
        refine WO.on rfl rfl d35 ?_
        refine WO.V (run_notP rfl) ?_
        refine WO.on rfl rfl d35 ?_
        refine WO.mv rfl rfl ?_
        refine dcase (p := ¬ (r.k = 1)) (fun g38 d38 => ?_) (fun g38 d38 => ?_)
        ·
         refine WO.on rfl rfl d38 ?_
         refine WO.V (run_fa 1 ⟨g2, 1, none⟩ rfl rfl) ?_
         refine WO.on rfl rfl d38 ?_
         refine WO.V (run_load Ty.ag31 rfl ((hS1.cel_at 0 rfl 1).trans rfl)) ?_
         refine WO.on rfl rfl d38 ?_
         refine WO.V (run_len rfl Tryz.underlying31 rfl) ?_
         refine WO.on rfl rfl d38 ?_
         refine WO.V (run_gtr rfl rfl) ?_
         refine WO.on rfl rfl d35 ?_
         refine WO.V (run_pickT rfl d38 rfl) ?_
         refine WO.V (run_pickF rfl d35 rfl) ?_
         refine WO.asg rfl rfl ?_
         refine WO.nil (NX.go ?_)
         refine WP.condP rfl (fun g17 => ?_) (fun g17 => ?_)
         ·
          refine WP.seq (WP.region rfl ?_)
          refine WO.asg rfl rfl ?_
          refine WO.nil (NX.go (WP.ret (NX.blkRet (NX.thenRet ?_))))
          refine NX.done (l := [.tmp 2]) rfl rfl ?_
          refine ⟨congrArg (Value.int .i64) ?_, hS1.drop.drop.drop.drop⟩
          clear hS1
          unfold rcheck
          repeat split
          all_goals first | rfl | omega
         ·
          refine WP.seq (WP.region rfl ?_)
          refine WO.mv rfl rfl ?_
          refine WO.mv rfl rfl ?_
          refine dcase (p := r.k = 1) (fun g47 d47 => ?_) (fun g47 d47 => ?_)
          ·
           refine WO.on rfl rfl d47 ?_
           refine WO.V (run_fa 1 ⟨g2, 1, none⟩ rfl rfl) ?_
           refine WO.on rfl rfl d47 ?_
           refine WO.V (run_load Ty.ag31 rfl ((hS1.cel_at 0 rfl 1).trans rfl)) ?_
           refine WO.on rfl rfl d47 ?_
           refine WO.V (run_len rfl Tryz.underlying31 rfl) ?_
           refine WO.on rfl rfl d47 ?_
           refine WO.V (run_lss rfl rfl) ?_
           refine WO.on rfl rfl d47 ?_
           refine WO.mv rfl rfl ?_
           refine dcase (p := ((r.ss.l.length : Nat) : Int) < 1) (fun g52 d52 => ?_) (fun g52 d52 => ?_)
           ·
            refine WO.off rfl rfl d52 rfl ?_
            refine WO.off rfl rfl d52 rfl ?_
            refine WO.off rfl rfl d52 rfl ?_
            refine WO.off rfl rfl d52 rfl ?_
            refine WO.on rfl rfl d47 ?_
            refine WO.V (run_pickT rfl d52 rfl) ?_
            refine WO.V (run_pickT rfl d47 rfl) ?_
            refine WO.asg rfl rfl ?_
            refine WO.nil (NX.go ?_)
            refine WP.condT rfl rfl ?_
            refine WP.seq (WP.region rfl ?_)
            refine WO.asg rfl rfl ?_
            refine WO.nil (NX.go (WP.ret (NX.blkRet (NX.thenRet ?_))))
            refine NX.done (l := [.tmp 2]) rfl rfl ?_
            refine ⟨congrArg (Value.int .i64) ?_, hS1.drop.drop.drop.drop⟩
            clear hS1
            unfold rcheck
            repeat split
            all_goals first | rfl | omega
           ·
            refine WO.on rfl rfl d52 ?_
            refine WO.V (run_fa 1 ⟨g2, 1, none⟩ rfl rfl) ?_
            refine WO.on rfl rfl d52 ?_
            refine WO.V (run_load Ty.ag31 rfl ((hS1.cel_at 0 rfl 1).trans rfl)) ?_
            refine WO.on rfl rfl d52 ?_
            refine WO.V (run_len rfl Tryz.underlying31 rfl) ?_
            refine WO.on rfl rfl d52 ?_
            refine WO.V (run_gtr rfl rfl) ?_
            refine WO.on rfl rfl d47 ?_
            refine WO.V (run_pickF rfl d52 rfl) ?_
            refine WO.V (run_pickT rfl d47 rfl) ?_
            refine WO.asg rfl rfl ?_
            refine WO.nil (NX.go ?_)
            refine WP.condP rfl (fun g45 => ?_) (fun g45 => ?_)
            ·
             refine WP.seq (WP.region rfl ?_)
             refine WO.asg rfl rfl ?_
             refine WO.nil (NX.go (WP.ret (NX.blkRet (NX.thenRet ?_))))
             refine NX.done (l := [.tmp 2]) rfl rfl ?_
             refine ⟨congrArg (Value.int .i64) ?_, hS1.drop.drop.drop.drop⟩
             clear hS1
             unfold rcheck
             repeat split
             all_goals first | rfl | omega
            ·
             refine WP.skip (NX.blk ?_)
             exact K3 () _ _ ⟨by omega, hS1⟩ (Sub.cons rfl (Sub.nil _))
          ·
           refine WO.off rfl rfl d47 rfl ?_
           refine WO.off rfl rfl d47 rfl ?_
           refine WO.off rfl rfl d47 rfl ?_
           refine WO.off rfl rfl d47 rfl ?_
           refine WO.off rfl rfl d47 rfl ?_
           refine WO.offU rfl rfl rfl ?_
           refine WO.offU rfl rfl rfl ?_
           refine WO.offU rfl rfl rfl ?_
           refine WO.offU rfl rfl rfl ?_
           refine WO.off rfl rfl d47 rfl ?_
           refine WO.V (run_pickF rfl d47 rfl) ?_
           refine WO.asg rfl rfl ?_
           refine WO.nil (NX.go ?_)
           refine WP.condF rfl rfl ?_
           refine WP.skip (NX.blk ?_)
           exact K3 () _ _ ⟨by omega, hS1⟩ (Sub.cons rfl (Sub.nil _))
        ·
         refine WO.off rfl rfl d38 rfl ?_
         refine WO.off rfl rfl d38 rfl ?_
         refine WO.off rfl rfl d38 rfl ?_
         refine WO.off rfl rfl d38 rfl ?_
         refine WO.on rfl rfl d35 ?_
         refine WO.V (run_pickF rfl d38 rfl) ?_
         refine WO.V (run_pickF rfl d35 rfl) ?_
         refine WO.asg rfl rfl ?_
         refine WO.nil (NX.go ?_)
         refine WP.condF rfl rfl ?_
         refine WP.seq (WP.region rfl ?_)
         refine WO.mv rfl rfl ?_
         refine WO.mv rfl rfl ?_
         refine dcase (p := r.k = 1) (fun g47 d47 => ?_) (fun g47 d47 => ?_)
         ·
          refine WO.on rfl rfl d47 ?_
          refine WO.V (run_fa 1 ⟨g2, 1, none⟩ rfl rfl) ?_
          refine WO.on rfl rfl d47 ?_
          refine WO.V (run_load Ty.ag31 rfl ((hS1.cel_at 0 rfl 1).trans rfl)) ?_
          refine WO.on rfl rfl d47 ?_
          refine WO.V (run_len rfl Tryz.underlying31 rfl) ?_
          refine WO.on rfl rfl d47 ?_
          refine WO.V (run_lss rfl rfl) ?_
          refine WO.on rfl rfl d47 ?_
          refine WO.mv rfl rfl ?_
          refine dcase (p := ((r.ss.l.length : Nat) : Int) < 1) (fun g52 d52 => ?_) (fun g52 d52 => ?_)
          ·
           refine WO.off rfl rfl d52 rfl ?_
           refine WO.off rfl rfl d52 rfl ?_
           refine WO.off rfl rfl d52 rfl ?_
           refine WO.off rfl rfl d52 rfl ?_
           refine WO.on rfl rfl d47 ?_
           refine WO.V (run_pickT rfl d52 rfl) ?_
           refine WO.V (run_pickT rfl d47 rfl) ?_
           refine WO.asg rfl rfl ?_
           refine WO.nil (NX.go ?_)
           refine WP.condT rfl rfl ?_
           refine WP.seq (WP.region rfl ?_)
           refine WO.asg rfl rfl ?_
           refine WO.nil (NX.go (WP.ret (NX.blkRet (NX.thenRet ?_))))
           refine NX.done (l := [.tmp 2]) rfl rfl ?_
           refine ⟨congrArg (Value.int .i64) ?_, hS1.drop.drop.drop.drop⟩
           clear hS1
           unfold rcheck
           repeat split
           all_goals first | rfl | omega
          ·
           refine WO.on rfl rfl d52 ?_
           refine WO.V (run_fa 1 ⟨g2, 1, none⟩ rfl rfl) ?_
           refine WO.on rfl rfl d52 ?_
           refine WO.V (run_load Ty.ag31 rfl ((hS1.cel_at 0 rfl 1).trans rfl)) ?_
           refine WO.on rfl rfl d52 ?_
           refine WO.V (run_len rfl Tryz.underlying31 rfl) ?_
           refine WO.on rfl rfl d52 ?_
           refine WO.V (run_gtr rfl rfl) ?_
           refine WO.on rfl rfl d47 ?_
           refine WO.V (run_pickF rfl d52 rfl) ?_
           refine WO.V (run_pickT rfl d47 rfl) ?_
           refine WO.asg rfl rfl ?_
           refine WO.nil (NX.go ?_)
           refine WP.condP rfl (fun g45 => ?_) (fun g45 => ?_)
           ·
            refine WP.seq (WP.region rfl ?_)
            refine WO.asg rfl rfl ?_
            refine WO.nil (NX.go (WP.ret (NX.blkRet (NX.thenRet ?_))))
            refine NX.done (l := [.tmp 2]) rfl rfl ?_
            refine ⟨congrArg (Value.int .i64) ?_, hS1.drop.drop.drop.drop⟩
            clear hS1
            unfold rcheck
            repeat split
            all_goals first | rfl | omega
           ·
            refine WP.skip (NX.blk ?_)
            exact K3 () _ _ ⟨by omega, hS1⟩ (Sub.cons rfl (Sub.nil _))
         ·
          refine WO.off rfl rfl d47 rfl ?_
          refine WO.off rfl rfl d47 rfl ?_
          refine WO.off rfl rfl d47 rfl ?_
          refine WO.off rfl rfl d47 rfl ?_
          refine WO.off rfl rfl d47 rfl ?_
          refine WO.offU rfl rfl rfl ?_
          refine WO.offU rfl rfl rfl ?_
          refine WO.offU rfl rfl rfl ?_
          refine WO.offU rfl rfl rfl ?_
          refine WO.off rfl rfl d47 rfl ?_
          refine WO.V (run_pickF rfl d47 rfl) ?_
          refine WO.asg rfl rfl ?_
          refine WO.nil (NX.go ?_)
          refine WP.condF rfl rfl ?_
          refine WP.skip (NX.blk ?_)
          exact K3 () _ _ ⟨by omega, hS1⟩ (Sub.cons rfl (Sub.nil _))
    ·
     refine WO.off rfl rfl d19 rfl ?_
     refine WO.off rfl rfl d19 rfl ?_
     refine WO.off rfl rfl d19 rfl ?_
     refine WO.off rfl rfl d19 rfl ?_
     refine WO.off rfl rfl d19 rfl ?_
     refine WO.offU rfl rfl rfl ?_
     refine WO.offU rfl rfl rfl ?_
     refine WO.offU rfl rfl rfl ?_
     refine WO.off rfl rfl d19 rfl ?_
     refine WO.off rfl rfl d19 rfl ?_
     refine WO.offU rfl rfl rfl ?_
     refine WO.offU rfl rfl rfl ?_
     refine WO.offU rfl rfl rfl ?_
     refine WO.off rfl rfl d19 rfl ?_
     refine WO.V (run_pickF rfl d19 rfl) ?_
     refine WO.mv rfl rfl ?_
     refine WO.on rfl rfl rfl ?_
     refine WO.mv rfl rfl ?_
     refine WO.on rfl rfl rfl ?_
     refine WO.V (run_notP rfl) ?_
     refine WO.on rfl rfl rfl ?_
     refine WO.mv rfl rfl ?_
     refine dcase (p := ¬ (r.k = 1)) (fun g38 d38 => ?_) (fun g38 d38 => ?_)
     ·
      refine WO.on rfl rfl d38 ?_
      refine WO.V (run_fa 1 ⟨g2, 1, none⟩ rfl rfl) ?_
      refine WO.on rfl rfl d38 ?_
      refine WO.V (run_load Ty.ag31 rfl ((hS1.cel_at 0 rfl 1).trans rfl)) ?_
      refine WO.on rfl rfl d38 ?_
      refine WO.V (run_len rfl Tryz.underlying31 rfl) ?_
      refine WO.on rfl rfl d38 ?_
      refine WO.V (run_gtr rfl rfl) ?_
      refine WO.on rfl rfl rfl ?_
      refine WO.V (run_pickT rfl d38 rfl) ?_
      refine WO.V (run_pickF rfl rfl rfl) ?_
      refine WO.asg rfl rfl ?_
      refine WO.nil (NX.go ?_)
      refine WP.condP rfl (fun g17 => ?_) (fun g17 => ?_)
      ·
       refine WP.seq (WP.region rfl ?_)
       refine WO.asg rfl rfl ?_
       refine WO.nil (NX.go (WP.ret (NX.blkRet (NX.thenRet ?_))))
       refine NX.done (l := [.tmp 2]) rfl rfl ?_
       refine ⟨congrArg (Value.int .i64) ?_, hS1.drop.drop.drop.drop⟩
       clear hS1
       unfold rcheck
       repeat split
       all_goals first | rfl | omega
      ·
       refine WP.seq (WP.region rfl ?_)
       refine WO.mv rfl rfl ?_
       refine WO.mv rfl rfl ?_
       refine dcase (p := r.k = 1) (fun g47 d47 => ?_) (fun g47 d47 => ?_)
       ·
        refine WO.on rfl rfl d47 ?_
        refine WO.V (run_fa 1 ⟨g2, 1, none⟩ rfl rfl) ?_
        refine WO.on rfl rfl d47 ?_
        refine WO.V (run_load Ty.ag31 rfl ((hS1.cel_at 0 rfl 1).trans rfl)) ?_
        refine WO.on rfl rfl d47 ?_
        refine WO.V (run_len rfl Tryz.underlying31 rfl) ?_
        refine WO.on rfl rfl d47 ?_
        refine WO.V (run_lss rfl rfl) ?_
        refine WO.on rfl rfl d47 ?_
        refine WO.mv rfl rfl ?_
        refine dcase (p := ((r.ss.l.length : Nat) : Int) < 1) (fun g52 d52 => ?_) (fun g52 d52 => ?_)
        ·
         refine WO.off rfl rfl d52 rfl ?_
         refine WO.off rfl rfl d52 rfl ?_
         refine WO.off rfl rfl d52 rfl ?_
         refine WO.off rfl rfl d52 rfl ?_
         refine WO.on rfl rfl d47 ?_
         refine WO.V (run_pickT rfl d52 rfl) ?_
         refine WO.V (run_pickT rfl d47 rfl) ?_
         refine WO.asg rfl rfl ?_
         refine WO.nil (NX.go ?_)
         refine WP.condT rfl rfl ?_
         refine WP.seq (WP.region rfl ?_)
         refine WO.asg rfl rfl ?_
         refine WO.nil (NX.go (WP.ret (NX.blkRet (NX.thenRet ?_))))
         refine NX.done (l := [.tmp 2]) rfl rfl ?_
         refine ⟨congrArg (Value.int .i64) ?_, hS1.drop.drop.drop.drop⟩
         clear hS1
         unfold rcheck
         repeat split
         all_goals first | rfl | omega
        ·
         refine WO.on rfl rfl d52 ?_
         refine WO.V (run_fa 1 ⟨g2, 1, none⟩ rfl rfl) ?_
         refine WO.on rfl rfl d52 ?_
         refine WO.V (run_load Ty.ag31 rfl ((hS1.cel_at 0 rfl 1).trans rfl)) ?_
         refine WO.on rfl rfl d52 ?_
         refine WO.V (run_len rfl Tryz.underlying31 rfl) ?_
         refine WO.on rfl rfl d52 ?_
         refine WO.V (run_gtr rfl rfl) ?_
         refine WO.on rfl rfl d47 ?_
         refine WO.V (run_pickF rfl d52 rfl) ?_
         refine WO.V (run_pickT rfl d47 rfl) ?_
         refine WO.asg rfl rfl ?_
         refine WO.nil (NX.go ?_)
         refine WP.condP rfl (fun g45 => ?_) (fun g45 => ?_)
         ·
          refine WP.seq (WP.region rfl ?_)
          refine WO.asg rfl rfl ?_
          refine WO.nil (NX.go (WP.ret (NX.blkRet (NX.thenRet ?_))))
          refine NX.done (l := [.tmp 2]) rfl rfl ?_
          refine ⟨congrArg (Value.int .i64) ?_, hS1.drop.drop.drop.drop⟩
          clear hS1
          unfold rcheck
          repeat split
          all_goals first | rfl | omega
         ·
          refine WP.skip (NX.blk ?_)
          exact K3 () _ _ ⟨by omega, hS1⟩ (Sub.cons rfl (Sub.nil _))
       ·
        refine WO.off rfl rfl d47 rfl ?_
        refine WO.off rfl rfl d47 rfl ?_
        refine WO.off rfl rfl d47 rfl ?_
        refine WO.off rfl rfl d47 rfl ?_
        refine WO.off rfl rfl d47 rfl ?_
        refine WO.offU rfl rfl rfl ?_
        refine WO.offU rfl rfl rfl ?_
        refine WO.offU rfl rfl rfl ?_
        refine WO.offU rfl rfl rfl ?_
        refine WO.off rfl rfl d47 rfl ?_
        refine WO.V (run_pickF rfl d47 rfl) ?_
        refine WO.asg rfl rfl ?_
        refine WO.nil (NX.go ?_)
        refine WP.condF rfl rfl ?_
        refine WP.skip (NX.blk ?_)
        exact K3 () _ _ ⟨by omega, hS1⟩ (Sub.cons rfl (Sub.nil _))
     ·
      refine WO.off rfl rfl d38 rfl ?_
      refine WO.off rfl rfl d38 rfl ?_
      refine WO.off rfl rfl d38 rfl ?_
      refine WO.off rfl rfl d38 rfl ?_
      refine WO.on rfl rfl rfl ?_
      refine WO.V (run_pickF rfl d38 rfl) ?_
      refine WO.V (run_pickF rfl rfl rfl) ?_
      refine WO.asg rfl rfl ?_
      refine WO.nil (NX.go ?_)
      refine WP.condF rfl rfl ?_
      refine WP.seq (WP.region rfl ?_)
      refine WO.mv rfl rfl ?_
      refine WO.mv rfl rfl ?_
      refine dcase (p := r.k = 1) (fun g47 d47 => ?_) (fun g47 d47 => ?_)
      ·
       refine WO.on rfl rfl d47 ?_
       refine WO.V (run_fa 1 ⟨g2, 1, none⟩ rfl rfl) ?_
       refine WO.on rfl rfl d47 ?_
       refine WO.V (run_load Ty.ag31 rfl ((hS1.cel_at 0 rfl 1).trans rfl)) ?_
       refine WO.on rfl rfl d47 ?_
       refine WO.V (run_len rfl Tryz.underlying31 rfl) ?_
       refine WO.on rfl rfl d47 ?_
       refine WO.V (run_lss rfl rfl) ?_
       refine WO.on rfl rfl d47 ?_
       refine WO.mv rfl rfl ?_
       refine dcase (p := ((r.ss.l.length : Nat) : Int) < 1) (fun g52 d52 => ?_) (fun g52 d52 => ?_)
       ·
        refine WO.off rfl rfl d52 rfl ?_
        refine WO.off rfl rfl d52 rfl ?_
        refine WO.off rfl rfl d52 rfl ?_
        refine WO.off rfl rfl d52 rfl ?_
        refine WO.on rfl rfl d47 ?_
        refine WO.V (run_pickT rfl d52 rfl) ?_
        refine WO.V (run_pickT rfl d47 rfl) ?_
        refine WO.asg rfl rfl ?_
        refine WO.nil (NX.go ?_)
        refine WP.condT rfl rfl ?_
        refine WP.seq (WP.region rfl ?_)
        refine WO.asg rfl rfl ?_
        refine WO.nil (NX.go (WP.ret (NX.blkRet (NX.thenRet ?_))))
        refine NX.done (l := [.tmp 2]) rfl rfl ?_
        refine ⟨congrArg (Value.int .i64) ?_, hS1.drop.drop.drop.drop⟩
        clear hS1
        unfold rcheck
        repeat split
        all_goals first | rfl | omega
       ·
        refine WO.on rfl rfl d52 ?_
        refine WO.V (run_fa 1 ⟨g2, 1, none⟩ rfl rfl) ?_
        refine WO.on rfl rfl d52 ?_
        refine WO.V (run_load Ty.ag31 rfl ((hS1.cel_at 0 rfl 1).trans rfl)) ?_
        refine WO.on rfl rfl d52 ?_
        refine WO.V (run_len rfl Tryz.underlying31 rfl) ?_
        refine WO.on rfl rfl d52 ?_
        refine WO.V (run_gtr rfl rfl) ?_
        refine WO.on rfl rfl d47 ?_
        refine WO.V (run_pickF rfl d52 rfl) ?_
        refine WO.V (run_pickT rfl d47 rfl) ?_
        refine WO.asg rfl rfl ?_
        refine WO.nil (NX.go ?_)
        refine WP.condP rfl (fun g45 => ?_) (fun g45 => ?_)
        ·
         refine WP.seq (WP.region rfl ?_)
         refine WO.asg rfl rfl ?_
         refine WO.nil (NX.go (WP.ret (NX.blkRet (NX.thenRet ?_))))
         refine NX.done (l := [.tmp 2]) rfl rfl ?_
         refine ⟨congrArg (Value.int .i64) ?_, hS1.drop.drop.drop.drop⟩
         clear hS1
         unfold rcheck
         repeat split
         all_goals first | rfl | omega
        ·
         refine WP.skip (NX.blk ?_)
         exact K3 () _ _ ⟨by omega, hS1⟩ (Sub.cons rfl (Sub.nil _))
      ·
       refine WO.off rfl rfl d47 rfl ?_
       refine WO.off rfl rfl d47 rfl ?_
       refine WO.off rfl rfl d47 rfl ?_
       refine WO.off rfl rfl d47 rfl ?_
       refine WO.off rfl rfl d47 rfl ?_
       refine WO.offU rfl rfl rfl ?_
       refine WO.offU rfl rfl rfl ?_
       refine WO.offU rfl rfl rfl ?_
       refine WO.offU rfl rfl rfl ?_
       refine WO.off rfl rfl d47 rfl ?_
       refine WO.V (run_pickF rfl d47 rfl) ?_
       refine WO.asg rfl rfl ?_
       refine WO.nil (NX.go ?_)
       refine WP.condF rfl rfl ?_
       refine WP.skip (NX.blk ?_)
       exact K3 () _ _ ⟨by omega, hS1⟩ (Sub.cons rfl (Sub.nil _))
  ·
   refine WO.off rfl rfl d12 rfl ?_
   refine WO.off rfl rfl d12 rfl ?_
   refine WO.off rfl rfl d12 rfl ?_
   refine WO.V (run_pickF rfl d12 rfl) ?_
   refine WO.asg rfl rfl ?_
   refine WO.nil (NX.go ?_)
   refine WP.condF rfl rfl ?_
   refine WP.seq (WP.region rfl ?_)
   refine WO.mv rfl rfl ?_
   refine WO.mv rfl rfl ?_
   refine dcase (p := r.k = 1) (fun g19 d19 => ?_) (fun g19 d19 => ?_)
   ·
    refine WO.on rfl rfl d19 ?_
    refine WO.V (run_fa 2 ⟨g2, 2, none⟩ rfl rfl) ?_
    refine WO.on rfl rfl d19 ?_
    refine WO.V (run_load Ty.ag24 rfl ((hS1.cel_at 0 rfl 2).trans rfl)) ?_
    refine WO.on rfl rfl d19 ?_
    refine WO.V (run_len rfl Tryz.underlying24 rfl) ?_
    refine WO.on rfl rfl d19 ?_
    refine WO.V (run_gtr rfl rfl) ?_
    refine WO.on rfl rfl d19 ?_
    refine WO.mv rfl rfl ?_
    refine dcase (p := 0 < ((r.ms.l.length : Nat) : Int)) (fun g24 d24 => ?_) (fun g24 d24 => ?_)
    ·
     refine WO.off rfl rfl d24 rfl ?_
     refine WO.off rfl rfl d24 rfl ?_
     refine WO.off rfl rfl d24 rfl ?_
     refine WO.on rfl rfl d19 ?_
     refine WO.V (run_pickT rfl d24 rfl) ?_
     refine WO.on rfl rfl d19 ?_
     refine WO.mv rfl rfl ?_
     refine WO.off rfl rfl rfl rfl ?_
     refine WO.off rfl rfl rfl rfl ?_
     refine WO.off rfl rfl rfl rfl ?_
     refine WO.on rfl rfl d19 ?_
     refine WO.V (run_pickT rfl rfl rfl) ?_
     refine WO.V (run_pickT rfl d19 rfl) ?_
     refine WO.mv rfl rfl ?_
     refine WO.off rfl rfl rfl rfl ?_
     refine WO.off rfl rfl rfl rfl ?_
     refine WO.off rfl rfl rfl rfl ?_
     refine WO.offU rfl rfl rfl ?_
     refine WO.offU rfl rfl rfl ?_
     refine WO.offU rfl rfl rfl ?_
     refine WO.offU rfl rfl rfl ?_
     refine WO.off rfl rfl rfl rfl ?_
     refine WO.V (run_pickT rfl rfl rfl) ?_
     refine WO.asg rfl rfl ?_
     refine WO.nil (NX.go ?_)
     refine WP.condT rfl rfl ?_
     refine WP.seq (WP.region rfl ?_)
     refine WO.asg rfl rfl ?_
     refine WO.nil (NX.go (WP.ret (NX.blkRet (NX.thenRet ?_))))
     refine NX.done (l := [.tmp 2]) rfl rfl ?_
     refine ⟨congrArg (Value.int .i64) ?_, hS1.drop.drop.drop.drop⟩
     clear hS1
     unfold rcheck
     repeat split
     all_goals first | rfl | omega
    ·
     refine WO.on rfl rfl d24 ?_
     refine WO.V (run_fa 3 ⟨g2, 3, none⟩ rfl rfl) ?_
     refine WO.on rfl rfl d24 ?_
     refine WO.V (run_load Ty.ag2 rfl ((hS1.cel_at 0 rfl 3).trans rfl)) ?_
     refine WO.on rfl rfl d24 ?_
     refine WO.V (run_neq rfl rfl) ?_
     refine WO.on rfl rfl d19 ?_
     refine WO.V (run_pickF rfl d24 rfl) ?_
     refine WO.on rfl rfl d19 ?_
     refine WO.mv rfl rfl ?_
     refine dcase (p := ¬ r.fr = 0) (fun g29 d29 => ?_) (fun g29 d29 => ?_)
     ·
      refine WO.off rfl rfl d29 rfl ?_
      refine WO.off rfl rfl d29 rfl ?_
      refine WO.off rfl rfl d29 rfl ?_
      refine WO.on rfl rfl d19 ?_
      refine WO.V (run_pickT rfl d29 rfl) ?_
      refine WO.V (run_pickT rfl d19 rfl) ?_
      refine WO.mv rfl rfl ?_
      refine WO.off rfl rfl rfl rfl ?_
      refine WO.off rfl rfl rfl rfl ?_
      refine WO.off rfl rfl rfl rfl ?_
      refine WO.offU rfl rfl rfl ?_
      refine WO.offU rfl rfl rfl ?_
      refine WO.offU rfl rfl rfl ?_
      refine WO.offU rfl rfl rfl ?_
      refine WO.off rfl rfl rfl rfl ?_
      refine WO.V (run_pickT rfl rfl rfl) ?_
      refine WO.asg rfl rfl ?_
      refine WO.nil (NX.go ?_)
      refine WP.condT rfl rfl ?_
      refine WP.seq (WP.region rfl ?_)
      refine WO.asg rfl rfl ?_
      refine WO.nil (NX.go (WP.ret (NX.blkRet (NX.thenRet ?_))))
      refine NX.done (l := [.tmp 2]) rfl rfl ?_
      refine ⟨congrArg (Value.int .i64) ?_, hS1.drop.drop.drop.drop⟩
      clear hS1
      unfold rcheck
      repeat split
      all_goals first | rfl | omega
     ·
      refine WO.on rfl rfl d29 ?_
      refine WO.V (run_fa 4 ⟨g2, 4, none⟩ rfl rfl) ?_
      refine WO.on rfl rfl d29 ?_
      refine WO.V (run_load Ty.ag2 rfl ((hS1.cel_at 0 rfl 4).trans rfl)) ?_
      refine WO.on rfl rfl d29 ?_
      refine WO.V (run_neq rfl rfl) ?_
      refine WO.on rfl rfl d19 ?_
      refine WO.V (run_pickF rfl d29 rfl) ?_
      refine WO.V (run_pickT rfl d19 rfl) ?_
      refine WO.mv rfl rfl ?_
      refine dcase (p := ¬ r.to = 0) (fun g35 d35 => ?_) (fun g35 d35 => ?_)
      ·
       refine WO.off rfl rfl d35 rfl ?_
       refine WO.off rfl rfl d35 rfl ?_
       refine WO.off rfl rfl d35 rfl ?_
       refine WO.offU rfl rfl rfl ?_
       refine WO.offU rfl rfl rfl ?_
       refine WO.offU rfl rfl rfl ?_
       refine WO.offU rfl rfl rfl ?_
       refine WO.off rfl rfl d35 rfl ?_
       refine WO.V (run_pickT rfl d35 rfl) ?_
       refine WO.asg rfl rfl ?_
       refine WO.nil (NX.go ?_)
       refine WP.condT rfl rfl ?_
       refine WP.seq (WP.region rfl ?_)
       refine WO.asg rfl rfl ?_
       refine WO.nil (NX.go (WP.ret (NX.blkRet (NX.thenRet ?_))))
       refine NX.done (l := [.tmp 2]) rfl rfl ?_
       refine ⟨congrArg (Value.int .i64) ?_, hS1.drop.drop.drop.drop⟩
       clear hS1
       unfold rcheck
       repeat split
       all_goals first | rfl | omega
      ·
       refine WO.on rfl rfl d35 ?_
       refine WO.mv rfl rfl ?_
       refine WO.on rfl rfl d35 ?_
       refine WO.V (run_notP rfl) ?_
       refine WO.on rfl rfl d35 ?_
       refine WO.mv rfl rfl ?_
       refine dcase (p := ¬ (r.k = 1)) (fun g38 d38 => ?_) (fun g38 d38 => ?_)
       ·
        refine WO.on rfl rfl d38 ?_
        refine WO.V (run_fa 1 ⟨g2, 1, none⟩ rfl rfl) ?_
        refine WO.on rfl rfl d38 ?_
        refine WO.V (run_load Ty.ag31 rfl ((hS1.cel_at 0 rfl 1).trans rfl)) ?_
        refine WO.on rfl rfl d38 ?_
        refine WO.V (run_len rfl Tryz.underlying31 rfl) ?_
        refine WO.on rfl rfl d38 ?_
        refine WO.V (run_gtr rfl rfl) ?_
        refine WO.on rfl rfl d35 ?_
        refine WO.V (run_pickT rfl d38 rfl) ?_
        refine WO.V (run_pickF rfl d35 rfl) ?_
        refine WO.asg rfl rfl ?_
        refine WO.nil (NX.go ?_)
        refine WP.condP rfl (fun g17 => ?_) (fun g17 => ?_)
        ·
         refine WP.seq (WP.region rfl ?_)
         refine WO.asg rfl rfl ?_
         refine WO.nil (NX.go (WP.ret (NX.blkRet (NX.thenRet ?_))))
         refine NX.done (l := [.tmp 2]) rfl rfl ?_
         refine ⟨congrArg (Value.int .i64) ?_, hS1.drop.drop.drop.drop⟩
         clear hS1
         unfold rcheck
         repeat split
         all_goals first | rfl | omega
        ·
         refine WP.seq (WP.region rfl ?_)
         refine WO.mv rfl rfl ?_
         refine WO.mv rfl rfl ?_
         refine dcase (p := r.k = 1) (fun g47 d47 => ?_) (fun g47 d47 => ?_)
         ·
          refine WO.on rfl rfl d47 ?_
          refine WO.V (run_fa 1 ⟨g2, 1, none⟩ rfl rfl) ?_
          refine WO.on rfl rfl d47 ?_
          refine WO.V (run_load Ty.ag31 rfl ((hS1.cel_at 0 rfl 1).trans rfl)) ?_
          refine WO.on rfl rfl d47 ?_
          refine WO.V (run_len rfl Tryz.underlying31 rfl) ?_
          refine WO.on rfl rfl d47 ?_
          refine WO.V (run_lss rfl rfl) ?_
          refine WO.on rfl rfl d47 ?_
          refine WO.mv rfl rfl ?_
          refine dcase (p := ((r.ss.l.length : Nat) : Int) < 1) (fun g52 d52 => ?_) (fun g52 d52 => ?_)
          ·
           refine WO.off rfl rfl d52 rfl ?_
           refine WO.off rfl rfl d52 rfl ?_
           refine WO.off rfl rfl d52 rfl ?_
           refine WO.off rfl rfl d52 rfl ?_
           refine WO.on rfl rfl d47 ?_
           refine WO.V (run_pickT rfl d52 rfl) ?_
           refine WO.V (run_pickT rfl d47 rfl) ?_
           refine WO.asg rfl rfl ?_
           refine WO.nil (NX.go ?_)
           refine WP.condT rfl rfl ?_
           refine WP.seq (WP.region rfl ?_)
           refine WO.asg rfl rfl ?_
           refine WO.nil (NX.go (WP.ret (NX.blkRet (NX.thenRet ?_))))
           refine NX.done (l := [.tmp 2]) rfl rfl ?_
           refine ⟨congrArg (Value.int .i64) ?_, hS1.drop.drop.drop.drop⟩
           clear hS1
           unfold rcheck
           repeat split
           all_goals first | rfl | omega
          ·
           refine WO.on rfl rfl d52 ?_
           refine WO.V (run_fa 1 ⟨g2, 1, none⟩ rfl rfl) ?_
           refine WO.on rfl rfl d52 ?_
           refine WO.V (run_load Ty.ag31 rfl ((hS1.cel_at 0 rfl 1).trans rfl)) ?_
           refine WO.on rfl rfl d52 ?_
           refine WO.V (run_len rfl Tryz.underlying31 rfl) ?_
           refine WO.on rfl rfl d52 ?_
           refine WO.V (run_gtr rfl rfl) ?_
           refine WO.on rfl rfl d47 ?_
           refine WO.V (run_pickF rfl d52 rfl) ?_
           refine WO.V (run_pickT rfl d47 rfl) ?_
           refine WO.asg rfl rfl ?_
           refine WO.nil (NX.go ?_)
           refine WP.condP rfl (fun g45 => ?_) (fun g45 => ?_)
           ·
            refine WP.seq (WP.region rfl ?_)
            refine WO.asg rfl rfl ?_
            refine WO.nil (NX.go (WP.ret (NX.blkRet (NX.thenRet ?_))))
            refine NX.done (l := [.tmp 2]) rfl rfl ?_
            refine ⟨congrArg (Value.int .i64) ?_, hS1.drop.drop.drop.drop⟩
            clear hS1
            unfold rcheck
            repeat split
            all_goals first | rfl | omega
           ·
            refine WP.skip (NX.blk ?_)
            exact K3 () _ _ ⟨by omega, hS1⟩ (Sub.cons rfl (Sub.nil _))
         ·
          refine WO.off rfl rfl d47 rfl ?_
          refine WO.off rfl rfl d47 rfl ?_
          refine WO.off rfl rfl d47 rfl ?_
          refine WO.off rfl rfl d47 rfl ?_
          refine WO.off rfl rfl d47 rfl ?_
          refine WO.offU rfl rfl rfl ?_
          refine WO.offU rfl rfl rfl ?_
          refine WO.offU rfl rfl rfl ?_
          refine WO.offU rfl rfl rfl ?_
          refine WO.off rfl rfl d47 rfl ?_
          refine WO.V (run_pickF rfl d47 rfl) ?_
          refine WO.asg rfl rfl ?_
          refine WO.nil (NX.go ?_)
          refine WP.condF rfl rfl ?_
          refine WP.skip (NX.blk ?_)
          exact K3 () _ _ ⟨by omega, hS1⟩ (Sub.cons rfl (Sub.nil _))
       ·
        refine WO.off rfl rfl d38 rfl ?_
        refine WO.off rfl rfl d38 rfl ?_
        refine WO.off rfl rfl d38 rfl ?_
        refine WO.off rfl rfl d38 rfl ?_
        refine WO.on rfl rfl d35 ?_
        refine WO.V (run_pickF rfl d38 rfl) ?_
        refine WO.V (run_pickF rfl d35 rfl) ?_
        refine WO.asg rfl rfl ?_
        refine WO.nil (NX.go ?_)
        refine WP.condF rfl rfl ?_
        refine WP.seq (WP.region rfl ?_)
        refine WO.mv rfl rfl ?_
        refine WO.mv rfl rfl ?_
        refine dcase (p := r.k = 1) (fun g47 d47 => ?_) (fun g47 d47 => ?_)
        ·
         refine WO.on rfl rfl d47 ?_
         refine WO.V (run_fa 1 ⟨g2, 1, none⟩ rfl rfl) ?_
         refine WO.on rfl rfl d47 ?_
         refine WO.V (run_load Ty.ag31 rfl ((hS1.cel_at 0 rfl 1).trans rfl)) ?_
         refine WO.on rfl rfl d47 ?_
         refine WO.V (run_len rfl Tryz.underlying31 rfl) ?_
         refine WO.on rfl rfl d47 ?_
         refine WO.V (run_lss rfl rfl) ?_
         refine WO.on rfl rfl d47 ?_
         refine WO.mv rfl rfl ?_
         refine dcase (p := ((r.ss.l.length : Nat) : Int) < 1) (fun g52 d52 => ?_) (fun g52 d52 => ?_)
         ·
          refine WO.off rfl rfl d52 rfl ?_
          refine WO.off rfl rfl d52 rfl ?_
          refine WO.off rfl rfl d52 rfl ?_
          refine WO.off rfl rfl d52 rfl ?_
          refine WO.on rfl rfl d47 ?_
          refine WO.V (run_pickT rfl d52 rfl) ?_
          refine WO.V (run_pickT rfl d47 rfl) ?_
          refine WO.asg rfl rfl ?_
          refine WO.nil (NX.go ?_)
          refine WP.condT rfl rfl ?_
          refine WP.seq (WP.region rfl ?_)
          refine WO.asg rfl rfl ?_
          refine WO.nil (NX.go (WP.ret (NX.blkRet (NX.thenRet ?_))))
          refine NX.done (l := [.tmp 2]) rfl rfl ?_
          refine ⟨congrArg (Value.int .i64) ?_, hS1.drop.drop.drop.drop⟩
          clear hS1
          unfold rcheck
          repeat split
          all_goals first | rfl | omega
         ·
          refine WO.on rfl rfl d52 ?_
          refine WO.V (run_fa 1 ⟨g2, 1, none⟩ rfl rfl) ?_
          refine WO.on rfl rfl d52 ?_
          refine WO.V (run_load Ty.ag31 rfl ((hS1.cel_at 0 rfl 1).trans rfl)) ?_
          refine WO.on rfl rfl d52 ?_
          refine WO.V (run_len rfl Tryz.underlying31 rfl) ?_
          refine WO.on rfl rfl d52 ?_
          refine WO.V (run_gtr rfl rfl) ?_
          refine WO.on rfl rfl d47 ?_
          refine WO.V (run_pickF rfl d52 rfl) ?_
          refine WO.V (run_pickT rfl d47 rfl) ?_
          refine WO.asg rfl rfl ?_
          refine WO.nil (NX.go ?_)
          refine WP.condP rfl (fun g45 => ?_) (fun g45 => ?_)
          ·
           refine WP.seq (WP.region rfl ?_)
           refine WO.asg rfl rfl ?_
           refine WO.nil (NX.go (WP.ret (NX.blkRet (NX.thenRet ?_))))
           refine NX.done (l := [.tmp 2]) rfl rfl ?_
           refine ⟨congrArg (Value.int .i64) ?_, hS1.drop.drop.drop.drop⟩
           clear hS1
           unfold rcheck
           repeat split
           all_goals first | rfl | omega
          ·
           refine WP.skip (NX.blk ?_)
           exact K3 () _ _ ⟨by omega, hS1⟩ (Sub.cons rfl (Sub.nil _))
        ·
         refine WO.off rfl rfl d47 rfl ?_
         refine WO.off rfl rfl d47 rfl ?_
         refine WO.off rfl rfl d47 rfl ?_
         refine WO.off rfl rfl d47 rfl ?_
         refine WO.off rfl rfl d47 rfl ?_
         refine WO.offU rfl rfl rfl ?_
         refine WO.offU rfl rfl rfl ?_
         refine WO.offU rfl rfl rfl ?_
         refine WO.offU rfl rfl rfl ?_
         refine WO.off rfl rfl d47 rfl ?_
         refine WO.V (run_pickF rfl d47 rfl) ?_
         refine WO.asg rfl rfl ?_
         refine WO.nil (NX.go ?_)
         refine WP.condF rfl rfl ?_
         refine WP.skip (NX.blk ?_)
         exact K3 () _ _ ⟨by omega, hS1⟩ (Sub.cons rfl (Sub.nil _))
   ·
    refine WO.off rfl rfl d19 rfl ?_
    refine WO.off rfl rfl d19 rfl ?_
    refine WO.off rfl rfl d19 rfl ?_
    refine WO.off rfl rfl d19 rfl ?_
    refine WO.off rfl rfl d19 rfl ?_
    refine WO.offU rfl rfl rfl ?_
    refine WO.offU rfl rfl rfl ?_
    refine WO.offU rfl rfl rfl ?_
    refine WO.off rfl rfl d19 rfl ?_
    refine WO.off rfl rfl d19 rfl ?_
    refine WO.offU rfl rfl rfl ?_
    refine WO.offU rfl rfl rfl ?_
    refine WO.offU rfl rfl rfl ?_
    refine WO.off rfl rfl d19 rfl ?_
    refine WO.V (run_pickF rfl d19 rfl) ?_
    refine WO.mv rfl rfl ?_
    refine WO.on rfl rfl rfl ?_
    refine WO.mv rfl rfl ?_
    refine WO.on rfl rfl rfl ?_
    refine WO.V (run_notP rfl) ?_
    refine WO.on rfl rfl rfl ?_
    refine WO.mv rfl rfl ?_
    refine dcase (p := ¬ (r.k = 1)) (fun g38 d38 => ?_) (fun g38 d38 => ?_)
    ·
     refine WO.on rfl rfl d38 ?_
     refine WO.V (run_fa 1 ⟨g2, 1, none⟩ rfl rfl) ?_
     refine WO.on rfl rfl d38 ?_
     refine WO.V (run_load Ty.ag31 rfl ((hS1.cel_at 0 rfl 1).trans rfl)) ?_
     refine WO.on rfl rfl d38 ?_
     refine WO.V (run_len rfl Tryz.underlying31 rfl) ?_
     refine WO.on rfl rfl d38 ?_
     refine WO.V (run_gtr rfl rfl) ?_
     refine WO.on rfl rfl rfl ?_
     refine WO.V (run_pickT rfl d38 rfl) ?_
     refine WO.V (run_pickF rfl rfl rfl) ?_
     refine WO.asg rfl rfl ?_
     refine WO.nil (NX.go ?_)
     refine WP.condP rfl (fun g17 => ?_) (fun g17 => ?_)
     ·
      refine WP.seq (WP.region rfl ?_)
      refine WO.asg rfl rfl ?_
      refine WO.nil (NX.go (WP.ret (NX.blkRet (NX.thenRet ?_))))
      refine NX.done (l := [.tmp 2]) rfl rfl ?_
      refine ⟨congrArg (Value.int .i64) ?_, hS1.drop.drop.drop.drop⟩
      clear hS1
      unfold rcheck
      repeat split
      all_goals first | rfl | omega
     ·
      refine WP.seq (WP.region rfl ?_)
      refine WO.mv rfl rfl ?_
      refine WO.mv rfl rfl ?_
      refine dcase (p := r.k = 1) (fun g47 d47 => ?_) (fun g47 d47 => ?_)
      ·
       refine WO.on rfl rfl d47 ?_
       refine WO.V (run_fa 1 ⟨g2, 1, none⟩ rfl rfl) ?_
       refine WO.on rfl rfl d47 ?_
       refine WO.V (run_load Ty.ag31 rfl ((hS1.cel_at 0 rfl 1).trans rfl)) ?_
       refine WO.on rfl rfl d47 ?_
       refine WO.V (run_len rfl Tryz.underlying31 rfl) ?_
       refine WO.on rfl rfl d47 ?_
       refine WO.V (run_lss rfl rfl) ?_
       refine WO.on rfl rfl d47 ?_
       refine WO.mv rfl rfl ?_
       refine dcase (p := ((r.ss.l.length : Nat) : Int) < 1) (fun g52 d52 => ?_) (fun g52 d52 => ?_)
       ·
        refine WO.off rfl rfl d52 rfl ?_
        refine WO.off rfl rfl d52 rfl ?_
        refine WO.off rfl rfl d52 rfl ?_
        refine WO.off rfl rfl d52 rfl ?_
        refine WO.on rfl rfl d47 ?_
        refine WO.V (run_pickT rfl d52 rfl) ?_
        refine WO.V (run_pickT rfl d47 rfl) ?_
        refine WO.asg rfl rfl ?_
        refine WO.nil (NX.go ?_)
        refine WP.condT rfl rfl ?_
        refine WP.seq (WP.region rfl ?_)
        refine WO.asg rfl rfl ?_
        refine WO.nil (NX.go (WP.ret (NX.blkRet (NX.thenRet ?_))))
        refine NX.done (l := [.tmp 2]) rfl rfl ?_
        refine ⟨congrArg (Value.int .i64) ?_, hS1.drop.drop.drop.drop⟩
        clear hS1
        unfold rcheck
        repeat split
        all_goals first | rfl | omega
       ·
        refine WO.on rfl rfl d52 ?_
        refine WO.V (run_fa 1 ⟨g2, 1, none⟩ rfl rfl) ?_
        refine WO.on rfl rfl d52 ?_
        refine WO.V (run_load Ty.ag31 rfl ((hS1.cel_at 0 rfl 1).trans rfl)) ?_
        refine WO.on rfl rfl d52 ?_
        refine WO.V (run_len rfl Tryz.underlying31 rfl) ?_
        refine WO.on rfl rfl d52 ?_
        refine WO.V (run_gtr rfl rfl) ?_
        refine WO.on rfl rfl d47 ?_
        refine WO.V (run_pickF rfl d52 rfl) ?_
        refine WO.V (run_pickT rfl d47 rfl) ?_
        refine WO.asg rfl rfl ?_
        refine WO.nil (NX.go ?_)
        refine WP.condP rfl (fun g45 => ?_) (fun g45 => ?_)
        ·
         refine WP.seq (WP.region rfl ?_)
         refine WO.asg rfl rfl ?_
         refine WO.nil (NX.go (WP.ret (NX.blkRet (NX.thenRet ?_))))
         refine NX.done (l := [.tmp 2]) rfl rfl ?_
         refine ⟨congrArg (Value.int .i64) ?_, hS1.drop.drop.drop.drop⟩
         clear hS1
         unfold rcheck
         repeat split
         all_goals first | rfl | omega
        ·
         refine WP.skip (NX.blk ?_)
         exact K3 () _ _ ⟨by omega, hS1⟩ (Sub.cons rfl (Sub.nil _))
      ·
       refine WO.off rfl rfl d47 rfl ?_
       refine WO.off rfl rfl d47 rfl ?_
       refine WO.off rfl rfl d47 rfl ?_
       refine WO.off rfl rfl d47 rfl ?_
       refine WO.off rfl rfl d47 rfl ?_
       refine WO.offU rfl rfl rfl ?_
       refine WO.offU rfl rfl rfl ?_
       refine WO.offU rfl rfl rfl ?_
       refine WO.offU rfl rfl rfl ?_
       refine WO.off rfl rfl d47 rfl ?_
       refine WO.V (run_pickF rfl d47 rfl) ?_
       refine WO.asg rfl rfl ?_
       refine WO.nil (NX.go ?_)
       refine WP.condF rfl rfl ?_
       refine WP.skip (NX.blk ?_)
       exact K3 () _ _ ⟨by omega, hS1⟩ (Sub.cons rfl (Sub.nil _))
    ·
     refine WO.off rfl rfl d38 rfl ?_
     refine WO.off rfl rfl d38 rfl ?_
     refine WO.off rfl rfl d38 rfl ?_
     refine WO.off rfl rfl d38 rfl ?_
     refine WO.on rfl rfl rfl ?_
     refine WO.V (run_pickF rfl d38 rfl) ?_
     refine WO.V (run_pickF rfl rfl rfl) ?_
     refine WO.asg rfl rfl ?_
     refine WO.nil (NX.go ?_)
     refine WP.condF rfl rfl ?_
     refine WP.seq (WP.region rfl ?_)
     refine WO.mv rfl rfl ?_
     refine WO.mv rfl rfl ?_
     refine dcase (p := r.k = 1) (fun g47 d47 => ?_) (fun g47 d47 => ?_)
     ·
      refine WO.on rfl rfl d47 ?_
      refine WO.V (run_fa 1 ⟨g2, 1, none⟩ rfl rfl) ?_
      refine WO.on rfl rfl d47 ?_
      refine WO.V (run_load Ty.ag31 rfl ((hS1.cel_at 0 rfl 1).trans rfl)) ?_
      refine WO.on rfl rfl d47 ?_
      refine WO.V (run_len rfl Tryz.underlying31 rfl) ?_
      refine WO.on rfl rfl d47 ?_
      refine WO.V (run_lss rfl rfl) ?_
      refine WO.on rfl rfl d47 ?_
      refine WO.mv rfl rfl ?_
      refine dcase (p := ((r.ss.l.length : Nat) : Int) < 1) (fun g52 d52 => ?_) (fun g52 d52 => ?_)
      ·
       refine WO.off rfl rfl d52 rfl ?_
       refine WO.off rfl rfl d52 rfl ?_
       refine WO.off rfl rfl d52 rfl ?_
       refine WO.off rfl rfl d52 rfl ?_
       refine WO.on rfl rfl d47 ?_
       refine WO.V (run_pickT rfl d52 rfl) ?_
       refine WO.V (run_pickT rfl d47 rfl) ?_
       refine WO.asg rfl rfl ?_
       refine WO.nil (NX.go ?_)
       refine WP.condT rfl rfl ?_
       refine WP.seq (WP.region rfl ?_)
       refine WO.asg rfl rfl ?_
       refine WO.nil (NX.go (WP.ret (NX.blkRet (NX.thenRet ?_))))
       refine NX.done (l := [.tmp 2]) rfl rfl ?_
       refine ⟨congrArg (Value.int .i64) ?_, hS1.drop.drop.drop.drop⟩
       clear hS1
       unfold rcheck
       repeat split
       all_goals first | rfl | omega
      ·
       refine WO.on rfl rfl d52 ?_
       refine WO.V (run_fa 1 ⟨g2, 1, none⟩ rfl rfl) ?_
       refine WO.on rfl rfl d52 ?_
       refine WO.V (run_load Ty.ag31 rfl ((hS1.cel_at 0 rfl 1).trans rfl)) ?_
       refine WO.on rfl rfl d52 ?_
       refine WO.V (run_len rfl Tryz.underlying31 rfl) ?_
       refine WO.on rfl rfl d52 ?_
       refine WO.V (run_gtr rfl rfl) ?_
       refine WO.on rfl rfl d47 ?_
       refine WO.V (run_pickF rfl d52 rfl) ?_
       refine WO.V (run_pickT rfl d47 rfl) ?_
       refine WO.asg rfl rfl ?_
       refine WO.nil (NX.go ?_)
       refine WP.condP rfl (fun g45 => ?_) (fun g45 => ?_)
       ·
        refine WP.seq (WP.region rfl ?_)
        refine WO.asg rfl rfl ?_
        refine WO.nil (NX.go (WP.ret (NX.blkRet (NX.thenRet ?_))))
        refine NX.done (l := [.tmp 2]) rfl rfl ?_
        refine ⟨congrArg (Value.int .i64) ?_, hS1.drop.drop.drop.drop⟩
        clear hS1
        unfold rcheck
        repeat split
        all_goals first | rfl | omega
       ·
        refine WP.skip (NX.blk ?_)
        exact K3 () _ _ ⟨by omega, hS1⟩ (Sub.cons rfl (Sub.nil _))
     ·
      refine WO.off rfl rfl d47 rfl ?_
      refine WO.off rfl rfl d47 rfl ?_
      refine WO.off rfl rfl d47 rfl ?_
      refine WO.off rfl rfl d47 rfl ?_
      refine WO.off rfl rfl d47 rfl ?_
      refine WO.offU rfl rfl rfl ?_
      refine WO.offU rfl rfl rfl ?_
      refine WO.offU rfl rfl rfl ?_
      refine WO.offU rfl rfl rfl ?_
      refine WO.off rfl rfl d47 rfl ?_
      refine WO.V (run_pickF rfl d47 rfl) ?_
      refine WO.asg rfl rfl ?_
      refine WO.nil (NX.go ?_)
      refine WP.condF rfl rfl ?_
      refine WP.skip (NX.blk ?_)
      exact K3 () _ _ ⟨by omega, hS1⟩ (Sub.cons rfl (Sub.nil _))
end Go.Proofs.YtidoidoelgfnaaaGreatDoor.SL

/- What is wrong with blocks: the reference. -/
namespace Go.Proofs.YtidoidoelgfnaaaGreatDoor.SL
open Go.RowKit Go.Proofs.YtidoidoelgfnaaaGreatDoor
open Go.Proofs.YtidoidoelgfnaaaGreatDoorW.PrintLast (rtab opsOf)
set_option linter.unusedVariables false
set_option linter.unusedSimpArgs false

def cmpV : Option MRow → MRow → Bool
  | none, _ => false
  | some q, u => decide (0 ≤ cmpF q.lb.l u.lb.l)
def tmV : Option Pt → Pt → Bool
  | none, _ => false
  | some q, p => decide (p.t ≤ q.t)
def ptsOk (last : Int) : Option Pt → List Pt → Bool
  | _, [] => true
  | pv, p :: l => !(decide (last < p.t) || tmV pv p) && ptsOk last (some p) l
def rowsGo : Option MRow → List MRow → Int
  | _, [] => 0
  | pv, r :: l => if chk r.lb.l = false then 16 else if cmpV pv r = true then 9 else if ptsOk r.last none r.pt.l = false then 9 else rowsGo (some r) l
def delsOk (l : List Rcd) : Bool := l.all fun r => decide (r.k = 2 ∧ rcheck r = 0)
def checkB (b : BlkV) : Int := if b.first < 1 ∨ 99999999 < b.to ∨ b.to < b.first then 2 else if ¬ rowsGo none b.rs.l = 0 then rowsGo none b.rs.l else if delsOk b.ds.l = true then 0 else 5
theorem rowsGo_chk : ∀ {l : List MRow} {pv : Option MRow}, rowsGo pv l = 0 → ∀ r ∈ l, chk r.lb.l = true
  | [], _, _, r, hr => by cases hr
  | u :: l, pv, h, r, hr => by
    rw [rowsGo] at h
    split at h
    · omega
    · rename_i hc
      split at h
      · omega
      · split at h
        · omega
        · rcases List.mem_cons.1 hr with e | hr
          · rw [e]; cases hq : chk u.lb.l with
            | true => rfl
            | false => exact absurd hq hc
          · exact rowsGo_chk h r hr
theorem checkB_chk {b : BlkV} (h : checkB b = 0) : ∀ r ∈ b.rs.l, chk r.lb.l = true := by
  unfold checkB at h
  split at h
  · omega
  · split at h
    · rename_i h1; exact absurd h h1
    · rename_i h1; exact rowsGo_chk (by simpa using h1)
theorem rowsGo_bad {pv : Option MRow} {u : MRow} {l : List MRow} (h : chk u.lb.l = false) : rowsGo pv (u :: l) = 16 := by rw [rowsGo, if_pos h]
theorem rowsGo_cmp {pv : Option MRow} {u : MRow} {l : List MRow} (h : chk u.lb.l = true) (h2 : cmpV pv u = true) : rowsGo pv (u :: l) = 9 := by rw [rowsGo, if_neg (by rw [h]; decide), if_pos h2]
theorem rowsGo_pts {pv : Option MRow} {u : MRow} {l : List MRow} (h : chk u.lb.l = true) (h2 : cmpV pv u = false) (h3 : ptsOk u.last none u.pt.l = false) : rowsGo pv (u :: l) = 9 := by rw [rowsGo, if_neg (by rw [h]; decide), if_neg (by rw [h2]; decide), if_pos h3]
theorem rowsGo_go {pv : Option MRow} {u : MRow} {l : List MRow} (h : chk u.lb.l = true) (h2 : cmpV pv u = false) (h3 : ptsOk u.last none u.pt.l = true) : rowsGo pv (u :: l) = rowsGo (some u) l := by rw [rowsGo, if_neg (by rw [h]; decide), if_neg (by rw [h2]; decide), if_neg (by rw [h3]; decide)]
theorem checkB_rows {b : BlkV} (h : ¬ (b.first < 1 ∨ 99999999 < b.to ∨ b.to < b.first)) {e : Int} (he : ¬ e = 0) (h2 : rowsGo none b.rs.l = e) : checkB b = e := by unfold checkB; rw [if_neg h, h2, if_pos he]
theorem checkB_dels {b : BlkV} (h : ¬ (b.first < 1 ∨ 99999999 < b.to ∨ b.to < b.first)) (h2 : rowsGo none b.rs.l = 0) : checkB b = if delsOk b.ds.l = true then 0 else 5 := by unfold checkB; rw [if_neg h, if_neg (by simp [h2])]
theorem t47_9 : rtab .any (opsOf Tryz.f47 9) = (true, [([], []), ([0], [0]), ([1], [1]), ([2], [2]), ([3, 2], [2, 3]), ([2], [2]), ([5, 2], [2, 5]), ([4, 6, 2], [2, 4, 6]), ([7, 2], [2, 7]), ([8, 2], [2, 8]), ([2], [2]), ([10, 2], [2, 10]), ([9, 11, 2, 2], [2, 9, 11]), ([12, 2], [2, 12]), ([2, 13], [2, 13])]) := by kernel_rfl
theorem t47_14 : rtab .any (opsOf Tryz.f47 14) = (true, [([], []), ([0], [0]), ([], []), ([1, 2], [1, 2]), ([3], [3]), ([4], [4]), ([], []), ([6], [6]), ([5, 7], [5, 7]), ([8], [8]), ([9], [9]), ([10, 9], [9, 10]), ([11, 9, 9], [9, 11]), ([12], [12]), ([13, 12], [12, 13]), ([12], [12]), ([14, 15, 12], [12, 14, 15]), ([16, 12], [12, 16]), ([17, 12], [12, 17]), ([12], [12]), ([19, 12], [12, 19]), ([12], [12]), ([21, 12], [12, 21]), ([20, 22, 12], [12, 20, 22]), ([23, 12], [12, 23]), ([24, 12], [12, 24]), ([18, 25, 12], [12, 18, 25]), ([12, 26, 9], [9, 12, 26]), ([9, 27], [9, 27])]) := by kernel_rfl
theorem r15chk_spec {B w : World} {L : List HP} (b1 : BlkV) (hz : MzB b1) (hS : St B (blA b1 :: L) w) : Does Tryz.prog 47 [Value.agg #[Value.int .i64 b1.first, Value.int .i64 b1.to, Value.slice b1.rs.a b1.rs.l.length b1.rs.cap, Value.slice b1.ds.a b1.ds.l.length b1.ds.cap]] w (fun v w1 => v = .int .i64 (checkB b1) ∧ St B (blA b1 :: L) w1) := by
 replace hS := blA_open hS
 have hnr := hz.nr
 have hnd := hz.nd
 refine enter (n := 112) Tryz.func47 rfl rfl [Value.agg #[Value.int .i64 b1.first, Value.int .i64 b1.to, Value.slice b1.rs.a b1.rs.l.length b1.rs.cap, Value.slice b1.ds.a b1.ds.l.length b1.ds.cap]] rfl ?_
 refine WP.seq (WP.region rfl ?_)
 refine WO.box (l := (blc b1)) hS rfl rfl rfl (fun g2 w1 lg2 hS1 => ?_)
 clear hS
 refine WO.asg rfl rfl ?_
 refine WO.nil (NX.go (WP.seq (WP.seq (WP.region rfl ?_))))
 refine WO.V (run_fa 0 ⟨g2, 0, none⟩ rfl rfl) ?_
 refine WO.V (run_load Ty.ag3 rfl ((hS1.cel_at 0 rfl 0).trans rfl)) ?_
 refine WO.V (run_lss rfl rfl) ?_
 refine WO.mv rfl rfl ?_
 refine dcase (p := b1.first < 1) (fun g10 d10 => ?_) (fun g10 d10 => ?_)
 ·
  refine WO.off rfl rfl d10 rfl ?_
  refine WO.off rfl rfl d10 rfl ?_
  refine WO.off rfl rfl d10 rfl ?_
  refine WO.V (run_pickT rfl d10 rfl) ?_
  refine WO.mv rfl rfl ?_
  refine WO.off rfl rfl rfl rfl ?_
  refine WO.off rfl rfl rfl rfl ?_
  refine WO.off rfl rfl rfl rfl ?_
  refine WO.off rfl rfl rfl rfl ?_
  refine WO.off rfl rfl rfl rfl ?_
  refine WO.V (run_pickT rfl rfl rfl) ?_
  refine WO.nil (NX.go ?_)
  refine WP.condT rfl rfl ?_
  refine WP.seq (WP.region rfl ?_)
  refine WO.asg rfl rfl ?_
  refine WO.nil (NX.go (WP.ret (NX.thenRet ?_)))
  refine NX.done (l := [.tmp 2]) rfl rfl ?_
  exact ⟨congrArg (Value.int .i64) (by unfold checkB; rw [if_pos (by omega)]), hS1.drop.drop.drop.drop.drop⟩
 ·
  refine WO.on rfl rfl d10 ?_
  refine WO.V (run_fa 1 ⟨g2, 1, none⟩ rfl rfl) ?_
  refine WO.on rfl rfl d10 ?_
  refine WO.V (run_load Ty.ag3 rfl ((hS1.cel_at 0 rfl 1).trans rfl)) ?_
  refine WO.on rfl rfl d10 ?_
  refine WO.V (run_gtr rfl rfl) ?_
  refine WO.V (run_pickF rfl d10 rfl) ?_
  refine WO.mv rfl rfl ?_
  refine dcase (p := 99999999 < b1.to) (fun g15 d15 => ?_) (fun g15 d15 => ?_)
  ·
   refine WO.off rfl rfl d15 rfl ?_
   refine WO.off rfl rfl d15 rfl ?_
   refine WO.off rfl rfl d15 rfl ?_
   refine WO.off rfl rfl d15 rfl ?_
   refine WO.off rfl rfl d15 rfl ?_
   refine WO.V (run_pickT rfl d15 rfl) ?_
   refine WO.nil (NX.go ?_)
   refine WP.condT rfl rfl ?_
   refine WP.seq (WP.region rfl ?_)
   refine WO.asg rfl rfl ?_
   refine WO.nil (NX.go (WP.ret (NX.thenRet ?_)))
   refine NX.done (l := [.tmp 2]) rfl rfl ?_
   exact ⟨congrArg (Value.int .i64) (by unfold checkB; rw [if_pos (by omega)]), hS1.drop.drop.drop.drop.drop⟩
  ·
   refine WO.on rfl rfl d15 ?_
   refine WO.V (run_fa 0 ⟨g2, 0, none⟩ rfl rfl) ?_
   refine WO.on rfl rfl d15 ?_
   refine WO.V (run_load Ty.ag3 rfl ((hS1.cel_at 0 rfl 0).trans rfl)) ?_
   refine WO.on rfl rfl d15 ?_
   refine WO.V (run_fa 1 ⟨g2, 1, none⟩ rfl rfl) ?_
   refine WO.on rfl rfl d15 ?_
   refine WO.V (run_load Ty.ag3 rfl ((hS1.cel_at 0 rfl 1).trans rfl)) ?_
   refine WO.on rfl rfl d15 ?_
   refine WO.V (run_gtr rfl rfl) ?_
   refine WO.V (run_pickF rfl d15 rfl) ?_
   refine WO.nil (NX.go ?_)
   refine WP.condP rfl (fun g21 => ?_) (fun g21 => ?_)
   ·
    refine WP.seq (WP.region rfl ?_)
    refine WO.asg rfl rfl ?_
    refine WO.nil (NX.go (WP.ret (NX.thenRet ?_)))
    refine NX.done (l := [.tmp 2]) rfl rfl ?_
    exact ⟨congrArg (Value.int .i64) (by unfold checkB; rw [if_pos (by omega)]), hS1.drop.drop.drop.drop.drop⟩
   ·
    refine WP.skip (NX.go (WP.seq (WP.seq (WP.region rfl ?_))))
    refine WO.asg rfl rfl ?_
    refine WO.nil (NX.go (WP.block ?_))
    have hS3 : St B (cel g2 (blc b1) 51 :: (rsA b1.rs) :: allA mrA b1.rs.l :: (dsA b1.ds) :: allA recA b1.ds.l :: blA b1 :: L) w1 := hS1
    clear hS1
    refine WP.loop (α := Nat × Option MRow) (fun x => match x with | ⟨i, pv⟩ => [(1, Value.pointer (some ⟨g2, 0, none⟩)), (2, Value.int .i64 0), (3, Value.int .i64 (i : Int))]) (fun x w => match x with | ⟨i, pv⟩ => (i ≤ b1.rs.l.length ∧ (i = 0 → pv = none) ∧ (∀ q, 0 < i → b1.rs.l[i - 1]? = some q → pv = some q) ∧ rowsGo pv (b1.rs.l.drop i) = rowsGo none b1.rs.l) ∧ St B (cel g2 (blc b1) 51 :: (rsA b1.rs) :: allA mrA b1.rs.l :: (dsA b1.ds) :: allA recA b1.ds.l :: blA b1 :: L) w) (fun x => match x with | ⟨i, pv⟩ => b1.rs.l.length - i) (0, none) ⟨⟨Nat.zero_le _, fun _ => rfl, fun q h => absurd h (by omega), rfl⟩, hS3⟩ (Sub.cons rfl (Sub.cons rfl (Sub.consE rfl (by first | rfl | first | rfl | (congr 1; omega) | (simp; done) | (simp; omega)) (Sub.nil _)))) ?_
    rintro ⟨i, pv⟩ w4 ⟨⟨hi, hz0, hq, hgo⟩, hS4⟩
    clear hS3
    refine WP.seq (WP.seq (WP.region rfl ?_))
    refine WO.mv rfl rfl ?_
    refine WO.V (run_fa 2 ⟨g2, 2, none⟩ rfl rfl) ?_
    refine WO.V (run_load Ty.ag49 rfl ((hS4.cel_at 0 rfl 2).trans rfl)) ?_
    refine WO.V (run_len rfl Tryz.underlying49 rfl) ?_
    refine WO.V (run_lss rfl rfl) ?_
    refine WO.nil (NX.go ?_)
    refine WP.condP rfl (fun g26 => ?_) (fun g26 => ?_)
    ·
     refine WP.skip (NX.go (WP.seq (WP.block (WP.seq ?_))))
     obtain ⟨u, hu⟩ : ∃ qq, b1.rs.l[i]? = some qq := ⟨_, List.getElem?_eq_getElem (by omega)⟩
     have hS5 := mrA_get (List.mem_of_getElem? hu) (hS4.permT [2] (L' := allA mrA b1.rs.l :: cel g2 (blc b1) 51 :: (rsA b1.rs) :: (dsA b1.ds) :: allA recA b1.ds.l :: blA b1 :: L) rfl)
     clear hS4
     have hzu := hz.r u (List.mem_of_getElem? hu)
     have hqe : 0 < i → ∃ q, b1.rs.l[i - 1]? = some q := fun h => ⟨_, List.getElem?_eq_getElem (by omega)⟩
     refine WP.region rfl ?_
     refine WO.V (run_fa 2 ⟨g2, 2, none⟩ rfl rfl) ?_
     refine WO.V (run_load Ty.ag49 rfl ((hS5.cel_at 3 rfl 2).trans rfl)) ?_
     refine WO.mv rfl rfl ?_
     refine WO.V (run_indexAddr (q := adr b1.rs.a (i * 3)) Tryz.underlying49 Ty.sz99 rfl rfl (by omega) (by omega) ((rdH_rd (hS5.focus 4 rfl)).2.1 (by omega)) rfl) ?_
     refine WO.V (run_loadAgg (vs := (mrc u)) Ty.ag99 Ty.sz99 rfl ((rdH_rd (hS5.focus 4 rfl)).cells (by rw [flat_len mrc_len]; omega) (flat_part mrc_len hu)).1 ((rdH_rd (hS5.focus 4 rfl)).cells (by rw [flat_len mrc_len]; omega) (flat_part mrc_len hu)).2) ?_
     refine WO.alloc (l := [Value.slice none 0 0, Value.int .i64 0, Value.slice none 0 0]) hS5 Ty.zr99 rfl rfl (fun g7 w6 lg7 hS6 => ?_)
     clear hS5
     refine WO.store (l' := (mrc u)) 0 hS6 rfl Ty.sz99 rfl rfl rfl rfl rfl (Nat.le_of_ble_eq_true rfl) rfl (fun w8 (hS8 : St B (cel g7 (mrc u) 99 :: (labA u.lb) :: (ptsA u.pt) :: allA mrA b1.rs.l :: cel g2 (blc b1) 51 :: (rsA b1.rs) :: (dsA b1.ds) :: allA recA b1.ds.l :: blA b1 :: L) w8) => ?_)
     clear hS6
     refine WO.nil (NX.go (WP.seq (WP.seq (WP.region rfl ?_))))
     refine WO.V (run_fa 0 ⟨g7, 0, none⟩ rfl rfl) ?_
     refine WO.V (run_load Ty.ag65 rfl ((hS8.cel_at 0 rfl 0).trans rfl)) ?_
     have hS9 := hS8.permT [1] (L' := (labA u.lb) :: cel g7 (mrc u) 99 :: (ptsA u.pt) :: allA mrA b1.rs.l :: cel g2 (blc b1) 51 :: (rsA b1.rs) :: (dsA b1.ds) :: allA recA b1.ds.l :: blA b1 :: L) rfl
     clear hS8
     refine WO.call rfl rfl Ty.hd49 rfl (rchk10_spec rdH_rd hzu.2.2 hzu.1 hS9) (fun v11 w10 pv11 => ?_)
     obtain ⟨rfl, hS10⟩ := pv11
     clear hS9
     refine WO.V (run_neq rfl rfl) ?_
     refine WO.nil (NX.go ?_)
     refine WP.condP rfl (fun g37 => ?_) (fun g37 => ?_)
     ·
      have hck : chk u.lb.l = false := by cases hx : chk u.lb.l with | false => rfl | true => (rw [hx] at g37; exact absurd rfl g37)
      refine WP.seq (WP.region rfl ?_)
      refine WO.asg rfl rfl ?_
      refine WO.nil (NX.go (WP.ret (NX.thenRet (NX.blkRet (NX.thenRet (NX.thenRet (NX.blkRet (NX.thenRet ?_))))))))
      refine NX.done (l := [.tmp 2]) rfl rfl ?_
      have hnb : ¬ (b1.first < 1 ∨ 99999999 < b1.to ∨ b1.to < b1.first) := by omega
      exact ⟨congrArg (Value.int .i64) (checkB_rows hnb (by decide) (by rw [← hgo, drop_cons hu, rowsGo_bad hck])).symm, hS10.drop.drop.drop.drop.drop.drop.drop.drop⟩
     ·
      have hck : chk u.lb.l = true := by cases hx : chk u.lb.l with | true => rfl | false => (rw [hx] at g37; exact absurd (by decide) g37)
      refine WP.skip (NX.go (WP.seq (WP.seq ?_)))
      have hsa : b1.rs.a.isSome = true := rd_isSome ((rdH_rd (hS10.focus 5 rfl))) (by omega)
      refine WD.start (fun w => Rd w u.lb.a u.lb.l.length 2 (u.lb.l.flatMap prc) ∧ (∀ jz, World.cell? w ⟨g7, jz, none⟩ = (mrc u)[jz]?) ∧ Rd w u.pt.a u.pt.l.length 2 (u.pt.l.flatMap ptc) ∧ (∀ jz, World.cell? w ⟨g2, jz, none⟩ = (blc b1)[jz]?) ∧ Rd w b1.rs.a b1.rs.l.length 3 (b1.rs.l.flatMap mrc)) [] (bt 15 0) Ty.mo rfl (by kernel_rfl) hS10 (fun _ h => ⟨(rdH_rd (h.focus 0 rfl)), h.cel_at 1 rfl, (rdH_rd (h.focus 2 rfl)), h.cel_at 4 rfl, (rdH_rd (h.focus 5 rfl))⟩) (fun w12 hS12 s13 => ?_)
      clear hS10
      refine DP (i := 0) t47_9 (bt 15 1) rfl rfl rfl rfl (fun w => run_move rfl) ?_
      refine DP (i := 1) t47_9 (bt 15 3) rfl rfl rfl rfl (fun w => run_gtr rfl rfl) ?_
      refine DP (i := 2) t47_9 (bt 15 7) rfl rfl rfl rfl (fun w => run_move rfl) ?_
      refine dcase (p := 0 < (i : Int)) (fun g40 d40 => ?_) (fun g40 d40 => ?_)
      ·
       obtain ⟨q, hq1⟩ := hqe (by omega)
       have hS14 := mrA_get (List.mem_of_getElem? hq1) (hS12.permT [3] (L' := allA mrA b1.rs.l :: (labA u.lb) :: cel g7 (mrc u) 99 :: (ptsA u.pt) :: cel g2 (blc b1) 51 :: (rsA b1.rs) :: (dsA b1.ds) :: allA recA b1.ds.l :: blA b1 :: L) rfl)
       clear hS12
       refine DPn (i := 3) t47_9 (bt 15 15) rfl rfl rfl d40 rfl (fun w => run_fa 2 ⟨g2, 2, none⟩ rfl rfl) ?_
       refine DTn (i := 4) t47_9 (bt 15 31) s13 rfl rfl rfl d40 rfl (fun w hs => run_load Ty.ag49 rfl ((hs.2.2.2.1 2).trans rfl)) ?_
       refine DPn (i := 5) t47_9 (bt 15 63) rfl rfl rfl d40 rfl (fun w => run_move rfl) ?_
       refine DPn (i := 6) t47_9 (bt 15 127) rfl rfl rfl d40 rfl (fun w => run_sub rfl rfl (IntWalk.i64_in _ (by omega))) ?_
       refine DTn (i := 7) t47_9 (bt 15 255) s13 rfl rfl rfl d40 rfl (fun w hs => run_indexAddr (q := adr b1.rs.a ((i - 1) * 3)) Tryz.underlying49 Ty.sz99 rfl rfl (by omega) (by omega) ((hs.2.2.2.2).2.1 (by omega)) (by rw [show ((i : Int) - 1).toNat = i - 1 by omega])) ?_
       refine DPn (i := 8) t47_9 (bt 15 511) rfl rfl rfl d40 rfl (fun w => run_fa 0 (adr b1.rs.a ((i - 1) * 3 + 0)) rfl (adr_add _ (by assumption) _ _)) ?_
       refine DTn (i := 9) t47_9 (bt 15 1023) s13 rfl rfl rfl d40 rfl (fun w hs => run_load Ty.ag65 rfl ((hs.2.2.2.2).cell ((flat_get mrc_len hq1 (j := 0) (by decide)).trans rfl))) ?_
       refine DPn (i := 10) t47_9 (bt 15 2047) rfl rfl rfl d40 rfl (fun w => run_fa 0 ⟨g7, 0, none⟩ rfl rfl) ?_
       refine DTn (i := 11) t47_9 (bt 15 4095) s13 rfl rfl rfl d40 rfl (fun w hs => run_load Ty.ag65 rfl ((hs.2.1 0).trans rfl)) ?_
       refine WD.one (i := 12) t47_9 (bt 15 8191) rfl (by kernel_rfl) ?_
       refine WO.on rfl rfl d40 ?_
       have hS15 := hS14.permT [0, 2] (L' := (labA q.lb) :: (labA u.lb) :: (ptsA q.pt) :: allA mrA b1.rs.l :: cel g7 (mrc u) 99 :: (ptsA u.pt) :: cel g2 (blc b1) 51 :: (rsA b1.rs) :: (dsA b1.ds) :: allA recA b1.ds.l :: blA b1 :: L) rfl
       clear hS14
       refine WO.call rfl rfl Ty.hd82 rfl (rcmp_spec rdH_rd rdH_rd (hz.r q (List.mem_of_getElem? hq1)).1 hzu.1 hS15) (fun v17 w16 pv17 => ?_)
       obtain ⟨rfl, hS16⟩ := pv17
       clear hS15
       refine WO.nil ?_
       have s18 : Rd w16 u.lb.a u.lb.l.length 2 (u.lb.l.flatMap prc) ∧ (∀ jz, World.cell? w16 ⟨g7, jz, none⟩ = (mrc u)[jz]?) ∧ Rd w16 u.pt.a u.pt.l.length 2 (u.pt.l.flatMap ptc) ∧ (∀ jz, World.cell? w16 ⟨g2, jz, none⟩ = (blc b1)[jz]?) ∧ Rd w16 b1.rs.a b1.rs.l.length 3 (b1.rs.l.flatMap mrc) := ⟨(rdH_rd (hS16.focus 1 rfl)), hS16.cel_at 4 rfl, (rdH_rd (hS16.focus 5 rfl)), hS16.cel_at 6 rfl, (rdH_rd (hS16.focus 7 rfl))⟩
       refine NX.held s18 ?_
       refine DPn (i := 13) t47_9 (bt 15 16383) rfl rfl rfl d40 rfl (fun w => run_geq rfl rfl) ?_
       refine DP (i := 14) t47_9 (bt 15 32767) rfl rfl rfl rfl (fun w => run_pickT rfl d40 rfl) ?_
       refine WD.done t47_9 (by kernel_rfl) ?_
       refine NX.go ?_
       refine WP.condP rfl (fun g52 => ?_) (fun g52 => ?_)
       ·
        refine WP.seq (WP.region rfl ?_)
        refine WO.asg rfl rfl ?_
        refine WO.nil (NX.go (WP.ret (NX.thenRet (NX.blkRet (NX.thenRet (NX.thenRet (NX.blkRet (NX.thenRet ?_))))))))
        refine NX.done (l := [.tmp 2]) rfl rfl ?_
        have hnb : ¬ (b1.first < 1 ∨ 99999999 < b1.to ∨ b1.to < b1.first) := by omega
        exact ⟨congrArg (Value.int .i64) (checkB_rows hnb (by decide) (by rw [← hgo, drop_cons hu, rowsGo_cmp hck (by rw [hq q (by omega) hq1]; exact decide_eq_true g52)])).symm, hS16.drop.drop.drop.drop.drop.drop.drop.drop.drop.drop⟩
       ·
        refine WP.skip (NX.go (WP.seq ?_))
        have hcm : cmpV pv u = false := by rw [hq q (by omega) hq1]; exact decide_eq_false g52
        refine WP.region rfl ?_
        refine WO.asg rfl rfl ?_
        refine WO.nil (NX.go (WP.block ?_))
        refine WP.loop (α := Nat × Option Pt) (fun x => match x with | ⟨k, pp⟩ => [(1, Value.pointer (some ⟨g2, 0, none⟩)), (2, Value.int .i64 0), (3, Value.int .i64 (i : Int)), (4, Value.pointer (some ⟨g7, 0, none⟩)), (5, Value.int .i64 (k : Int))]) (fun x w => match x with | ⟨k, pp⟩ => (k ≤ u.pt.l.length ∧ (k = 0 → pp = none) ∧ (∀ q, 0 < k → u.pt.l[k - 1]? = some q → pp = some q) ∧ ptsOk u.last pp (u.pt.l.drop k) = ptsOk u.last none u.pt.l) ∧ St B (cel g7 (mrc u) 99 :: (ptsA u.pt) :: cel g2 (blc b1) 51 :: (rsA b1.rs) :: allA mrA b1.rs.l :: (dsA b1.ds) :: allA recA b1.ds.l :: blA b1 :: L) w) (fun x => match x with | ⟨k, pp⟩ => u.pt.l.length - k) (0, none) ⟨⟨Nat.zero_le _, fun _ => rfl, fun q h => absurd h (by omega), rfl⟩, (hS16.permT [0, 0, 0, 1, 1, 1, 1] (L' := (labA q.lb) :: (labA u.lb) :: (ptsA q.pt) :: cel g7 (mrc u) 99 :: (ptsA u.pt) :: cel g2 (blc b1) 51 :: (rsA b1.rs) :: allA mrA b1.rs.l :: (dsA b1.ds) :: allA recA b1.ds.l :: blA b1 :: L) rfl).drop.drop.drop⟩ (Sub.cons rfl (Sub.cons rfl (Sub.cons rfl (Sub.cons rfl (Sub.consE rfl (by first | rfl | first | rfl | (congr 1; omega) | (simp; done) | (simp; omega)) (Sub.nil _)))))) ?_
        rintro ⟨k, pp⟩ w19 ⟨⟨hk, hpz, hpq, hpgo⟩, hS19⟩
        clear hS16
        refine WP.seq (WP.seq (WP.region rfl ?_))
        refine WO.mv rfl rfl ?_
        refine WO.V (run_fa 2 ⟨g7, 2, none⟩ rfl rfl) ?_
        refine WO.V (run_load Ty.ag66 rfl ((hS19.cel_at 0 rfl 2).trans rfl)) ?_
        refine WO.V (run_len rfl Tryz.underlying66 rfl) ?_
        refine WO.V (run_lss rfl rfl) ?_
        refine WO.nil (NX.go ?_)
        refine WP.condP rfl (fun g57 => ?_) (fun g57 => ?_)
        ·
         refine WP.skip (NX.go (WP.seq (WP.block (WP.seq ?_))))
         obtain ⟨p, hp⟩ : ∃ qq, u.pt.l[k]? = some qq := ⟨_, List.getElem?_eq_getElem (by omega)⟩
         have hsp : u.pt.a.isSome = true := rd_isSome ((rdH_rd (hS19.focus 1 rfl))) (by omega)
         have hpe : 0 < k → ∃ q, u.pt.l[k - 1]? = some q := fun h => ⟨_, List.getElem?_eq_getElem (by omega)⟩
         refine WD.start (fun w => (∀ jz, World.cell? w ⟨g7, jz, none⟩ = (mrc u)[jz]?) ∧ Rd w u.pt.a u.pt.l.length 2 (u.pt.l.flatMap ptc) ∧ (∀ jz, World.cell? w ⟨g2, jz, none⟩ = (blc b1)[jz]?) ∧ Rd w b1.rs.a b1.rs.l.length 3 (b1.rs.l.flatMap mrc)) [] (bt 29 0) Ty.mo rfl (by kernel_rfl) hS19 (fun _ h => ⟨h.cel_at 0 rfl, (rdH_rd (h.focus 1 rfl)), h.cel_at 2 rfl, (rdH_rd (h.focus 3 rfl))⟩) (fun w20 hS20 s21 => ?_)
         clear hS19
         refine DP (i := 0) t47_14 (bt 29 1) rfl rfl rfl rfl (fun w => run_fa 2 ⟨g7, 2, none⟩ rfl rfl) ?_
         refine DT (i := 1) t47_14 (bt 29 3) s21 rfl rfl rfl rfl (fun w hs => run_load Ty.ag66 rfl ((hs.1 2).trans rfl)) ?_
         refine DP (i := 2) t47_14 (bt 29 7) rfl rfl rfl rfl (fun w => run_move rfl) ?_
         refine DT (i := 3) t47_14 (bt 29 15) s21 rfl rfl rfl rfl (fun w hs => run_indexAddr (q := adr u.pt.a (k * 2)) Tryz.underlying66 Ty.sz103 rfl rfl (by omega) (by omega) ((hs.2.1).2.1 (by omega)) rfl) ?_
         refine DP (i := 4) t47_14 (bt 29 31) rfl rfl rfl rfl (fun w => run_fa 0 (adr u.pt.a (k * 2 + 0)) rfl (adr_add _ (by assumption) _ _)) ?_
         refine DT (i := 5) t47_14 (bt 29 63) s21 rfl rfl rfl rfl (fun w hs => run_load Ty.ag2 rfl ((hs.2.1).cell ((flat_get ptc_len hp (j := 0) (by decide)).trans rfl))) ?_
         refine DP (i := 6) t47_14 (bt 29 127) rfl rfl rfl rfl (fun w => run_fa 1 ⟨g7, 1, none⟩ rfl rfl) ?_
         refine DT (i := 7) t47_14 (bt 29 255) s21 rfl rfl rfl rfl (fun w hs => run_load Ty.ag2 rfl ((hs.1 1).trans rfl)) ?_
         refine DP (i := 8) t47_14 (bt 29 511) rfl rfl rfl rfl (fun w => run_gtr rfl rfl) ?_
         refine DP (i := 9) t47_14 (bt 29 1023) rfl rfl rfl rfl (fun w => run_move rfl) ?_
         refine dcase (p := u.last < p.t) (fun g69 d69 => ?_) (fun g69 d69 => ?_)
         ·
          refine DO (i := 10) t47_14 (bt 29 2047) rfl rfl rfl d69 rfl ?_
          refine DO (i := 11) t47_14 (bt 29 4095) rfl rfl rfl d69 rfl ?_
          refine DO (i := 12) t47_14 (bt 29 8191) rfl rfl rfl d69 rfl ?_
          refine DU (i := 13) t47_14 (bt 29 16383) rfl rfl rfl rfl ?_
          refine DU (i := 14) t47_14 (bt 29 32767) rfl rfl rfl rfl ?_
          refine DU (i := 15) t47_14 (bt 29 65535) rfl rfl rfl rfl ?_
          refine DU (i := 16) t47_14 (bt 29 131071) rfl rfl rfl rfl ?_
          refine DU (i := 17) t47_14 (bt 29 262143) rfl rfl rfl rfl ?_
          refine DU (i := 18) t47_14 (bt 29 524287) rfl rfl rfl rfl ?_
          refine DU (i := 19) t47_14 (bt 29 1048575) rfl rfl rfl rfl ?_
          refine DU (i := 20) t47_14 (bt 29 2097151) rfl rfl rfl rfl ?_
          refine DU (i := 21) t47_14 (bt 29 4194303) rfl rfl rfl rfl ?_
          refine DU (i := 22) t47_14 (bt 29 8388607) rfl rfl rfl rfl ?_
          refine DU (i := 23) t47_14 (bt 29 16777215) rfl rfl rfl rfl ?_
          refine DU (i := 24) t47_14 (bt 29 33554431) rfl rfl rfl rfl ?_
          refine DU (i := 25) t47_14 (bt 29 67108863) rfl rfl rfl rfl ?_
          refine DU (i := 26) t47_14 (bt 29 134217727) rfl rfl rfl rfl ?_
          refine DO (i := 27) t47_14 (bt 29 268435455) rfl rfl rfl d69 rfl ?_
          refine DP (i := 28) t47_14 (bt 29 536870911) rfl rfl rfl rfl (fun w => run_pickT rfl d69 rfl) ?_
          refine WD.done t47_14 (by kernel_rfl) ?_
          refine NX.go ?_
          refine WP.condT rfl rfl ?_
          refine WP.seq (WP.region rfl ?_)
          refine WO.asg rfl rfl ?_
          refine WO.nil (NX.go (WP.ret (NX.blkRet (NX.thenRet (NX.thenRet (NX.blkRet (NX.blkRet (NX.thenRet (NX.thenRet (NX.blkRet (NX.thenRet ?_)))))))))))
          refine NX.done (l := [.tmp 2]) rfl rfl ?_
          have hnb : ¬ (b1.first < 1 ∨ 99999999 < b1.to ∨ b1.to < b1.first) := by omega
          have hpb : ptsOk u.last none u.pt.l = false := by rw [← hpgo, drop_cons hp, ptsOk, show (!(decide (u.last < p.t) || _)) = false by simp [g69], Bool.false_and]
          exact ⟨congrArg (Value.int .i64) (checkB_rows hnb (by decide) (by rw [← hgo, drop_cons hu, rowsGo_pts hck hcm hpb])).symm, hS20.drop.drop.drop.drop.drop.drop.drop⟩
         ·
          refine DPn (i := 10) t47_14 (bt 29 2047) rfl rfl rfl d69 rfl (fun w => run_move rfl) ?_
          refine DPn (i := 11) t47_14 (bt 29 4095) rfl rfl rfl d69 rfl (fun w => run_gtr rfl rfl) ?_
          refine DPn (i := 12) t47_14 (bt 29 8191) rfl rfl rfl d69 rfl (fun w => run_move rfl) ?_
          refine dcase (p := 0 < (k : Int)) (fun g72 d72 => ?_) (fun g72 d72 => ?_)
          ·
           obtain ⟨pq, hpq1⟩ := hpe (by omega)
           refine DPn (i := 13) t47_14 (bt 29 16383) rfl rfl rfl d72 rfl (fun w => run_fa 2 ⟨g7, 2, none⟩ rfl rfl) ?_
           refine DTn (i := 14) t47_14 (bt 29 32767) s21 rfl rfl rfl d72 rfl (fun w hs => run_load Ty.ag66 rfl ((hs.1 2).trans rfl)) ?_
           refine DPn (i := 15) t47_14 (bt 29 65535) rfl rfl rfl d72 rfl (fun w => run_move rfl) ?_
           refine DTn (i := 16) t47_14 (bt 29 131071) s21 rfl rfl rfl d72 rfl (fun w hs => run_indexAddr (q := adr u.pt.a (k * 2)) Tryz.underlying66 Ty.sz103 rfl rfl (by omega) (by omega) ((hs.2.1).2.1 (by omega)) rfl) ?_
           refine DPn (i := 17) t47_14 (bt 29 262143) rfl rfl rfl d72 rfl (fun w => run_fa 0 (adr u.pt.a (k * 2 + 0)) rfl (adr_add _ (by assumption) _ _)) ?_
           refine DTn (i := 18) t47_14 (bt 29 524287) s21 rfl rfl rfl d72 rfl (fun w hs => run_load Ty.ag2 rfl ((hs.2.1).cell ((flat_get ptc_len hp (j := 0) (by decide)).trans rfl))) ?_
           refine DPn (i := 19) t47_14 (bt 29 1048575) rfl rfl rfl d72 rfl (fun w => run_fa 2 ⟨g7, 2, none⟩ rfl rfl) ?_
           refine DTn (i := 20) t47_14 (bt 29 2097151) s21 rfl rfl rfl d72 rfl (fun w hs => run_load Ty.ag66 rfl ((hs.1 2).trans rfl)) ?_
           refine DPn (i := 21) t47_14 (bt 29 4194303) rfl rfl rfl d72 rfl (fun w => run_move rfl) ?_
           refine DPn (i := 22) t47_14 (bt 29 8388607) rfl rfl rfl d72 rfl (fun w => run_sub rfl rfl (IntWalk.i64_in _ (by omega))) ?_
           refine DTn (i := 23) t47_14 (bt 29 16777215) s21 rfl rfl rfl d72 rfl (fun w hs => run_indexAddr (q := adr u.pt.a ((k - 1) * 2)) Tryz.underlying66 Ty.sz103 rfl rfl (by omega) (by omega) ((hs.2.1).2.1 (by omega)) (by rw [show ((k : Int) - 1).toNat = k - 1 by omega])) ?_
           refine DPn (i := 24) t47_14 (bt 29 33554431) rfl rfl rfl d72 rfl (fun w => run_fa 0 (adr u.pt.a ((k - 1) * 2 + 0)) rfl (adr_add _ (by assumption) _ _)) ?_
           refine DTn (i := 25) t47_14 (bt 29 67108863) s21 rfl rfl rfl d72 rfl (fun w hs => run_load Ty.ag2 rfl ((hs.2.1).cell ((flat_get ptc_len hpq1 (j := 0) (by decide)).trans rfl))) ?_
           refine DPn (i := 26) t47_14 (bt 29 134217727) rfl rfl rfl d72 rfl (fun w => run_leq rfl rfl) ?_
           refine DPn (i := 27) t47_14 (bt 29 268435455) rfl rfl rfl d69 rfl (fun w => run_pickT rfl d72 rfl) ?_
           refine DP (i := 28) t47_14 (bt 29 536870911) rfl rfl rfl rfl (fun w => run_pickF rfl d69 rfl) ?_
           refine WD.done t47_14 (by kernel_rfl) ?_
           refine NX.go ?_
           refine WP.condP rfl (fun g88 => ?_) (fun g88 => ?_)
           ·
            refine WP.seq (WP.region rfl ?_)
            refine WO.asg rfl rfl ?_
            refine WO.nil (NX.go (WP.ret (NX.blkRet (NX.thenRet (NX.thenRet (NX.blkRet (NX.blkRet (NX.thenRet (NX.thenRet (NX.blkRet (NX.thenRet ?_)))))))))))
            refine NX.done (l := [.tmp 2]) rfl rfl ?_
            have hnb : ¬ (b1.first < 1 ∨ 99999999 < b1.to ∨ b1.to < b1.first) := by omega
            have hpb : ptsOk u.last none u.pt.l = false := by rw [← hpgo, drop_cons hp, ptsOk, show (!(decide (u.last < p.t) || tmV pp p)) = false by rw [hpq pq (by omega) hpq1]; simp [tmV, g88], Bool.false_and]
            exact ⟨congrArg (Value.int .i64) (checkB_rows hnb (by decide) (by rw [← hgo, drop_cons hu, rowsGo_pts hck hcm hpb])).symm, hS20.drop.drop.drop.drop.drop.drop.drop⟩
           ·
            refine WP.skip (NX.blk (NX.go ?_))
            have hpk : (!(decide (u.last < p.t) || tmV pp p)) = true := by rw [hpq pq (by omega) hpq1]; simp [tmV]; omega
            refine WP.region rfl ?_
            refine WO.mv rfl rfl ?_
            refine WO.V (run_add rfl rfl (IntWalk.i64_in _ (by omega))) ?_
            refine WO.asg rfl rfl ?_
            refine WO.nil ?_
            exact NX.again (k + 1, some p) ⟨⟨by omega, fun h => by omega, fun q _ h => by rw [Nat.add_sub_cancel, hp] at h; cases h; rfl, by rw [← hpgo, drop_cons hp, ptsOk, hpk]; rfl⟩, hS20⟩ (by show u.pt.l.length - (k + 1) < u.pt.l.length - k; omega) (Sub.cons rfl (Sub.cons rfl (Sub.cons rfl (Sub.cons rfl (Sub.consE rfl (by congr 1) (Sub.nil _))))))
          ·
           refine DO (i := 13) t47_14 (bt 29 16383) rfl rfl rfl d72 rfl ?_
           refine DO (i := 14) t47_14 (bt 29 32767) rfl rfl rfl d72 rfl ?_
           refine DO (i := 15) t47_14 (bt 29 65535) rfl rfl rfl d72 rfl ?_
           refine DO (i := 16) t47_14 (bt 29 131071) rfl rfl rfl d72 rfl ?_
           refine DO (i := 17) t47_14 (bt 29 262143) rfl rfl rfl d72 rfl ?_
           refine DO (i := 18) t47_14 (bt 29 524287) rfl rfl rfl d72 rfl ?_
           refine DO (i := 19) t47_14 (bt 29 1048575) rfl rfl rfl d72 rfl ?_
           refine DO (i := 20) t47_14 (bt 29 2097151) rfl rfl rfl d72 rfl ?_
           refine DO (i := 21) t47_14 (bt 29 4194303) rfl rfl rfl d72 rfl ?_
           refine DO (i := 22) t47_14 (bt 29 8388607) rfl rfl rfl d72 rfl ?_
           refine DO (i := 23) t47_14 (bt 29 16777215) rfl rfl rfl d72 rfl ?_
           refine DO (i := 24) t47_14 (bt 29 33554431) rfl rfl rfl d72 rfl ?_
           refine DO (i := 25) t47_14 (bt 29 67108863) rfl rfl rfl d72 rfl ?_
           refine DO (i := 26) t47_14 (bt 29 134217727) rfl rfl rfl d72 rfl ?_
           refine DPn (i := 27) t47_14 (bt 29 268435455) rfl rfl rfl d69 rfl (fun w => run_pickF rfl d72 rfl) ?_
           refine DP (i := 28) t47_14 (bt 29 536870911) rfl rfl rfl rfl (fun w => run_pickF rfl d69 rfl) ?_
           refine WD.done t47_14 (by kernel_rfl) ?_
           refine NX.go ?_
           refine WP.condF rfl rfl ?_
           refine WP.skip (NX.blk (NX.go ?_))
           have hpk : (!(decide (u.last < p.t) || tmV pp p)) = true := by rw [hpz (by omega)]; simp [tmV]; omega
           refine WP.region rfl ?_
           refine WO.mv rfl rfl ?_
           refine WO.V (run_add rfl rfl (IntWalk.i64_in _ (by omega))) ?_
           refine WO.asg rfl rfl ?_
           refine WO.nil ?_
           exact NX.again (k + 1, some p) ⟨⟨by omega, fun h => by omega, fun q _ h => by rw [Nat.add_sub_cancel, hp] at h; cases h; rfl, by rw [← hpgo, drop_cons hp, ptsOk, hpk]; rfl⟩, hS20⟩ (by show u.pt.l.length - (k + 1) < u.pt.l.length - k; omega) (Sub.cons rfl (Sub.cons rfl (Sub.cons rfl (Sub.cons rfl (Sub.consE rfl (by congr 1) (Sub.nil _))))))
        ·
         refine WP.exit (NX.thenExit (NX.thenExit ?_))
         refine NX.blkExit ?_
         refine NX.blk (NX.go (WP.region rfl ?_))
         refine WO.mv rfl rfl ?_
         refine WO.V (run_add rfl rfl (IntWalk.i64_in _ (by omega))) ?_
         refine WO.asg rfl rfl ?_
         refine WO.nil ?_
         exact NX.again (i + 1, some u) ⟨⟨by omega, fun h => by omega, fun q _ h => by rw [Nat.add_sub_cancel, hu] at h; cases h; rfl, by rw [← hgo, drop_cons hu, rowsGo_go hck hcm (by rw [← hpgo, List.drop_of_length_le (by omega)]; rfl)]⟩, hS19.drop.drop⟩ (by show b1.rs.l.length - (i + 1) < b1.rs.l.length - i; omega) (Sub.cons rfl (Sub.cons rfl (Sub.consE rfl (by congr 1) (Sub.nil _))))
      ·
       refine DO (i := 3) t47_9 (bt 15 15) rfl rfl rfl d40 rfl ?_
       refine DO (i := 4) t47_9 (bt 15 31) rfl rfl rfl d40 rfl ?_
       refine DO (i := 5) t47_9 (bt 15 63) rfl rfl rfl d40 rfl ?_
       refine DO (i := 6) t47_9 (bt 15 127) rfl rfl rfl d40 rfl ?_
       refine DO (i := 7) t47_9 (bt 15 255) rfl rfl rfl d40 rfl ?_
       refine DO (i := 8) t47_9 (bt 15 511) rfl rfl rfl d40 rfl ?_
       refine DO (i := 9) t47_9 (bt 15 1023) rfl rfl rfl d40 rfl ?_
       refine DO (i := 10) t47_9 (bt 15 2047) rfl rfl rfl d40 rfl ?_
       refine DO (i := 11) t47_9 (bt 15 4095) rfl rfl rfl d40 rfl ?_
       refine DO (i := 12) t47_9 (bt 15 8191) rfl rfl rfl d40 rfl ?_
       refine DO (i := 13) t47_9 (bt 15 16383) rfl rfl rfl d40 rfl ?_
       refine DP (i := 14) t47_9 (bt 15 32767) rfl rfl rfl rfl (fun w => run_pickF rfl d40 rfl) ?_
       refine WD.done t47_9 (by kernel_rfl) ?_
       refine NX.go ?_
       refine WP.condF rfl rfl ?_
       refine WP.skip (NX.go (WP.seq ?_))
       have hcm : cmpV pv u = false := by rw [hz0 (by omega)]; rfl
       refine WP.region rfl ?_
       refine WO.asg rfl rfl ?_
       refine WO.nil (NX.go (WP.block ?_))
       refine WP.loop (α := Nat × Option Pt) (fun x => match x with | ⟨k, pp⟩ => [(1, Value.pointer (some ⟨g2, 0, none⟩)), (2, Value.int .i64 0), (3, Value.int .i64 (i : Int)), (4, Value.pointer (some ⟨g7, 0, none⟩)), (5, Value.int .i64 (k : Int))]) (fun x w => match x with | ⟨k, pp⟩ => (k ≤ u.pt.l.length ∧ (k = 0 → pp = none) ∧ (∀ q, 0 < k → u.pt.l[k - 1]? = some q → pp = some q) ∧ ptsOk u.last pp (u.pt.l.drop k) = ptsOk u.last none u.pt.l) ∧ St B (cel g7 (mrc u) 99 :: (ptsA u.pt) :: cel g2 (blc b1) 51 :: (rsA b1.rs) :: allA mrA b1.rs.l :: (dsA b1.ds) :: allA recA b1.ds.l :: blA b1 :: L) w) (fun x => match x with | ⟨k, pp⟩ => u.pt.l.length - k) (0, none) ⟨⟨Nat.zero_le _, fun _ => rfl, fun q h => absurd h (by omega), rfl⟩, (hS12.permT [0, 0, 0, 1, 1] (L' := (labA u.lb) :: cel g7 (mrc u) 99 :: (ptsA u.pt) :: cel g2 (blc b1) 51 :: (rsA b1.rs) :: allA mrA b1.rs.l :: (dsA b1.ds) :: allA recA b1.ds.l :: blA b1 :: L) rfl).drop⟩ (Sub.cons rfl (Sub.cons rfl (Sub.cons rfl (Sub.cons rfl (Sub.consE rfl (by first | rfl | first | rfl | (congr 1; omega) | (simp; done) | (simp; omega)) (Sub.nil _)))))) ?_
       rintro ⟨k, pp⟩ w22 ⟨⟨hk, hpz, hpq, hpgo⟩, hS22⟩
       clear hS12
       refine WP.seq (WP.seq (WP.region rfl ?_))
       refine WO.mv rfl rfl ?_
       refine WO.V (run_fa 2 ⟨g7, 2, none⟩ rfl rfl) ?_
       refine WO.V (run_load Ty.ag66 rfl ((hS22.cel_at 0 rfl 2).trans rfl)) ?_
       refine WO.V (run_len rfl Tryz.underlying66 rfl) ?_
       refine WO.V (run_lss rfl rfl) ?_
       refine WO.nil (NX.go ?_)
       refine WP.condP rfl (fun g57 => ?_) (fun g57 => ?_)
       ·
        refine WP.skip (NX.go (WP.seq (WP.block (WP.seq ?_))))
        obtain ⟨p, hp⟩ : ∃ qq, u.pt.l[k]? = some qq := ⟨_, List.getElem?_eq_getElem (by omega)⟩
        have hsp : u.pt.a.isSome = true := rd_isSome ((rdH_rd (hS22.focus 1 rfl))) (by omega)
        have hpe : 0 < k → ∃ q, u.pt.l[k - 1]? = some q := fun h => ⟨_, List.getElem?_eq_getElem (by omega)⟩
        refine WD.start (fun w => (∀ jz, World.cell? w ⟨g7, jz, none⟩ = (mrc u)[jz]?) ∧ Rd w u.pt.a u.pt.l.length 2 (u.pt.l.flatMap ptc) ∧ (∀ jz, World.cell? w ⟨g2, jz, none⟩ = (blc b1)[jz]?) ∧ Rd w b1.rs.a b1.rs.l.length 3 (b1.rs.l.flatMap mrc)) [] (bt 29 0) Ty.mo rfl (by kernel_rfl) hS22 (fun _ h => ⟨h.cel_at 0 rfl, (rdH_rd (h.focus 1 rfl)), h.cel_at 2 rfl, (rdH_rd (h.focus 3 rfl))⟩) (fun w23 hS23 s24 => ?_)
        clear hS22
        refine DP (i := 0) t47_14 (bt 29 1) rfl rfl rfl rfl (fun w => run_fa 2 ⟨g7, 2, none⟩ rfl rfl) ?_
        refine DT (i := 1) t47_14 (bt 29 3) s24 rfl rfl rfl rfl (fun w hs => run_load Ty.ag66 rfl ((hs.1 2).trans rfl)) ?_
        refine DP (i := 2) t47_14 (bt 29 7) rfl rfl rfl rfl (fun w => run_move rfl) ?_
        refine DT (i := 3) t47_14 (bt 29 15) s24 rfl rfl rfl rfl (fun w hs => run_indexAddr (q := adr u.pt.a (k * 2)) Tryz.underlying66 Ty.sz103 rfl rfl (by omega) (by omega) ((hs.2.1).2.1 (by omega)) rfl) ?_
        refine DP (i := 4) t47_14 (bt 29 31) rfl rfl rfl rfl (fun w => run_fa 0 (adr u.pt.a (k * 2 + 0)) rfl (adr_add _ (by assumption) _ _)) ?_
        refine DT (i := 5) t47_14 (bt 29 63) s24 rfl rfl rfl rfl (fun w hs => run_load Ty.ag2 rfl ((hs.2.1).cell ((flat_get ptc_len hp (j := 0) (by decide)).trans rfl))) ?_
        refine DP (i := 6) t47_14 (bt 29 127) rfl rfl rfl rfl (fun w => run_fa 1 ⟨g7, 1, none⟩ rfl rfl) ?_
        refine DT (i := 7) t47_14 (bt 29 255) s24 rfl rfl rfl rfl (fun w hs => run_load Ty.ag2 rfl ((hs.1 1).trans rfl)) ?_
        refine DP (i := 8) t47_14 (bt 29 511) rfl rfl rfl rfl (fun w => run_gtr rfl rfl) ?_
        refine DP (i := 9) t47_14 (bt 29 1023) rfl rfl rfl rfl (fun w => run_move rfl) ?_
        refine dcase (p := u.last < p.t) (fun g69 d69 => ?_) (fun g69 d69 => ?_)
        ·
         refine DO (i := 10) t47_14 (bt 29 2047) rfl rfl rfl d69 rfl ?_
         refine DO (i := 11) t47_14 (bt 29 4095) rfl rfl rfl d69 rfl ?_
         refine DO (i := 12) t47_14 (bt 29 8191) rfl rfl rfl d69 rfl ?_
         refine DU (i := 13) t47_14 (bt 29 16383) rfl rfl rfl rfl ?_
         refine DU (i := 14) t47_14 (bt 29 32767) rfl rfl rfl rfl ?_
         refine DU (i := 15) t47_14 (bt 29 65535) rfl rfl rfl rfl ?_
         refine DU (i := 16) t47_14 (bt 29 131071) rfl rfl rfl rfl ?_
         refine DU (i := 17) t47_14 (bt 29 262143) rfl rfl rfl rfl ?_
         refine DU (i := 18) t47_14 (bt 29 524287) rfl rfl rfl rfl ?_
         refine DU (i := 19) t47_14 (bt 29 1048575) rfl rfl rfl rfl ?_
         refine DU (i := 20) t47_14 (bt 29 2097151) rfl rfl rfl rfl ?_
         refine DU (i := 21) t47_14 (bt 29 4194303) rfl rfl rfl rfl ?_
         refine DU (i := 22) t47_14 (bt 29 8388607) rfl rfl rfl rfl ?_
         refine DU (i := 23) t47_14 (bt 29 16777215) rfl rfl rfl rfl ?_
         refine DU (i := 24) t47_14 (bt 29 33554431) rfl rfl rfl rfl ?_
         refine DU (i := 25) t47_14 (bt 29 67108863) rfl rfl rfl rfl ?_
         refine DU (i := 26) t47_14 (bt 29 134217727) rfl rfl rfl rfl ?_
         refine DO (i := 27) t47_14 (bt 29 268435455) rfl rfl rfl d69 rfl ?_
         refine DP (i := 28) t47_14 (bt 29 536870911) rfl rfl rfl rfl (fun w => run_pickT rfl d69 rfl) ?_
         refine WD.done t47_14 (by kernel_rfl) ?_
         refine NX.go ?_
         refine WP.condT rfl rfl ?_
         refine WP.seq (WP.region rfl ?_)
         refine WO.asg rfl rfl ?_
         refine WO.nil (NX.go (WP.ret (NX.blkRet (NX.thenRet (NX.thenRet (NX.blkRet (NX.blkRet (NX.thenRet (NX.thenRet (NX.blkRet (NX.thenRet ?_)))))))))))
         refine NX.done (l := [.tmp 2]) rfl rfl ?_
         have hnb : ¬ (b1.first < 1 ∨ 99999999 < b1.to ∨ b1.to < b1.first) := by omega
         have hpb : ptsOk u.last none u.pt.l = false := by rw [← hpgo, drop_cons hp, ptsOk, show (!(decide (u.last < p.t) || _)) = false by simp [g69], Bool.false_and]
         exact ⟨congrArg (Value.int .i64) (checkB_rows hnb (by decide) (by rw [← hgo, drop_cons hu, rowsGo_pts hck hcm hpb])).symm, hS23.drop.drop.drop.drop.drop.drop.drop⟩
        ·
         refine DPn (i := 10) t47_14 (bt 29 2047) rfl rfl rfl d69 rfl (fun w => run_move rfl) ?_
         refine DPn (i := 11) t47_14 (bt 29 4095) rfl rfl rfl d69 rfl (fun w => run_gtr rfl rfl) ?_
         refine DPn (i := 12) t47_14 (bt 29 8191) rfl rfl rfl d69 rfl (fun w => run_move rfl) ?_
         refine dcase (p := 0 < (k : Int)) (fun g72 d72 => ?_) (fun g72 d72 => ?_)
         ·
          obtain ⟨pq, hpq1⟩ := hpe (by omega)
          refine DPn (i := 13) t47_14 (bt 29 16383) rfl rfl rfl d72 rfl (fun w => run_fa 2 ⟨g7, 2, none⟩ rfl rfl) ?_
          refine DTn (i := 14) t47_14 (bt 29 32767) s24 rfl rfl rfl d72 rfl (fun w hs => run_load Ty.ag66 rfl ((hs.1 2).trans rfl)) ?_
          refine DPn (i := 15) t47_14 (bt 29 65535) rfl rfl rfl d72 rfl (fun w => run_move rfl) ?_
          refine DTn (i := 16) t47_14 (bt 29 131071) s24 rfl rfl rfl d72 rfl (fun w hs => run_indexAddr (q := adr u.pt.a (k * 2)) Tryz.underlying66 Ty.sz103 rfl rfl (by omega) (by omega) ((hs.2.1).2.1 (by omega)) rfl) ?_
          refine DPn (i := 17) t47_14 (bt 29 262143) rfl rfl rfl d72 rfl (fun w => run_fa 0 (adr u.pt.a (k * 2 + 0)) rfl (adr_add _ (by assumption) _ _)) ?_
          refine DTn (i := 18) t47_14 (bt 29 524287) s24 rfl rfl rfl d72 rfl (fun w hs => run_load Ty.ag2 rfl ((hs.2.1).cell ((flat_get ptc_len hp (j := 0) (by decide)).trans rfl))) ?_
          refine DPn (i := 19) t47_14 (bt 29 1048575) rfl rfl rfl d72 rfl (fun w => run_fa 2 ⟨g7, 2, none⟩ rfl rfl) ?_
          refine DTn (i := 20) t47_14 (bt 29 2097151) s24 rfl rfl rfl d72 rfl (fun w hs => run_load Ty.ag66 rfl ((hs.1 2).trans rfl)) ?_
          refine DPn (i := 21) t47_14 (bt 29 4194303) rfl rfl rfl d72 rfl (fun w => run_move rfl) ?_
          refine DPn (i := 22) t47_14 (bt 29 8388607) rfl rfl rfl d72 rfl (fun w => run_sub rfl rfl (IntWalk.i64_in _ (by omega))) ?_
          refine DTn (i := 23) t47_14 (bt 29 16777215) s24 rfl rfl rfl d72 rfl (fun w hs => run_indexAddr (q := adr u.pt.a ((k - 1) * 2)) Tryz.underlying66 Ty.sz103 rfl rfl (by omega) (by omega) ((hs.2.1).2.1 (by omega)) (by rw [show ((k : Int) - 1).toNat = k - 1 by omega])) ?_
          refine DPn (i := 24) t47_14 (bt 29 33554431) rfl rfl rfl d72 rfl (fun w => run_fa 0 (adr u.pt.a ((k - 1) * 2 + 0)) rfl (adr_add _ (by assumption) _ _)) ?_
          refine DTn (i := 25) t47_14 (bt 29 67108863) s24 rfl rfl rfl d72 rfl (fun w hs => run_load Ty.ag2 rfl ((hs.2.1).cell ((flat_get ptc_len hpq1 (j := 0) (by decide)).trans rfl))) ?_
          refine DPn (i := 26) t47_14 (bt 29 134217727) rfl rfl rfl d72 rfl (fun w => run_leq rfl rfl) ?_
          refine DPn (i := 27) t47_14 (bt 29 268435455) rfl rfl rfl d69 rfl (fun w => run_pickT rfl d72 rfl) ?_
          refine DP (i := 28) t47_14 (bt 29 536870911) rfl rfl rfl rfl (fun w => run_pickF rfl d69 rfl) ?_
          refine WD.done t47_14 (by kernel_rfl) ?_
          refine NX.go ?_
          refine WP.condP rfl (fun g88 => ?_) (fun g88 => ?_)
          ·
           refine WP.seq (WP.region rfl ?_)
           refine WO.asg rfl rfl ?_
           refine WO.nil (NX.go (WP.ret (NX.blkRet (NX.thenRet (NX.thenRet (NX.blkRet (NX.blkRet (NX.thenRet (NX.thenRet (NX.blkRet (NX.thenRet ?_)))))))))))
           refine NX.done (l := [.tmp 2]) rfl rfl ?_
           have hnb : ¬ (b1.first < 1 ∨ 99999999 < b1.to ∨ b1.to < b1.first) := by omega
           have hpb : ptsOk u.last none u.pt.l = false := by rw [← hpgo, drop_cons hp, ptsOk, show (!(decide (u.last < p.t) || tmV pp p)) = false by rw [hpq pq (by omega) hpq1]; simp [tmV, g88], Bool.false_and]
           exact ⟨congrArg (Value.int .i64) (checkB_rows hnb (by decide) (by rw [← hgo, drop_cons hu, rowsGo_pts hck hcm hpb])).symm, hS23.drop.drop.drop.drop.drop.drop.drop⟩
          ·
           refine WP.skip (NX.blk (NX.go ?_))
           have hpk : (!(decide (u.last < p.t) || tmV pp p)) = true := by rw [hpq pq (by omega) hpq1]; simp [tmV]; omega
           refine WP.region rfl ?_
           refine WO.mv rfl rfl ?_
           refine WO.V (run_add rfl rfl (IntWalk.i64_in _ (by omega))) ?_
           refine WO.asg rfl rfl ?_
           refine WO.nil ?_
           exact NX.again (k + 1, some p) ⟨⟨by omega, fun h => by omega, fun q _ h => by rw [Nat.add_sub_cancel, hp] at h; cases h; rfl, by rw [← hpgo, drop_cons hp, ptsOk, hpk]; rfl⟩, hS23⟩ (by show u.pt.l.length - (k + 1) < u.pt.l.length - k; omega) (Sub.cons rfl (Sub.cons rfl (Sub.cons rfl (Sub.cons rfl (Sub.consE rfl (by congr 1) (Sub.nil _))))))
         ·
          refine DO (i := 13) t47_14 (bt 29 16383) rfl rfl rfl d72 rfl ?_
          refine DO (i := 14) t47_14 (bt 29 32767) rfl rfl rfl d72 rfl ?_
          refine DO (i := 15) t47_14 (bt 29 65535) rfl rfl rfl d72 rfl ?_
          refine DO (i := 16) t47_14 (bt 29 131071) rfl rfl rfl d72 rfl ?_
          refine DO (i := 17) t47_14 (bt 29 262143) rfl rfl rfl d72 rfl ?_
          refine DO (i := 18) t47_14 (bt 29 524287) rfl rfl rfl d72 rfl ?_
          refine DO (i := 19) t47_14 (bt 29 1048575) rfl rfl rfl d72 rfl ?_
          refine DO (i := 20) t47_14 (bt 29 2097151) rfl rfl rfl d72 rfl ?_
          refine DO (i := 21) t47_14 (bt 29 4194303) rfl rfl rfl d72 rfl ?_
          refine DO (i := 22) t47_14 (bt 29 8388607) rfl rfl rfl d72 rfl ?_
          refine DO (i := 23) t47_14 (bt 29 16777215) rfl rfl rfl d72 rfl ?_
          refine DO (i := 24) t47_14 (bt 29 33554431) rfl rfl rfl d72 rfl ?_
          refine DO (i := 25) t47_14 (bt 29 67108863) rfl rfl rfl d72 rfl ?_
          refine DO (i := 26) t47_14 (bt 29 134217727) rfl rfl rfl d72 rfl ?_
          refine DPn (i := 27) t47_14 (bt 29 268435455) rfl rfl rfl d69 rfl (fun w => run_pickF rfl d72 rfl) ?_
          refine DP (i := 28) t47_14 (bt 29 536870911) rfl rfl rfl rfl (fun w => run_pickF rfl d69 rfl) ?_
          refine WD.done t47_14 (by kernel_rfl) ?_
          refine NX.go ?_
          refine WP.condF rfl rfl ?_
          refine WP.skip (NX.blk (NX.go ?_))
          have hpk : (!(decide (u.last < p.t) || tmV pp p)) = true := by rw [hpz (by omega)]; simp [tmV]; omega
          refine WP.region rfl ?_
          refine WO.mv rfl rfl ?_
          refine WO.V (run_add rfl rfl (IntWalk.i64_in _ (by omega))) ?_
          refine WO.asg rfl rfl ?_
          refine WO.nil ?_
          exact NX.again (k + 1, some p) ⟨⟨by omega, fun h => by omega, fun q _ h => by rw [Nat.add_sub_cancel, hp] at h; cases h; rfl, by rw [← hpgo, drop_cons hp, ptsOk, hpk]; rfl⟩, hS23⟩ (by show u.pt.l.length - (k + 1) < u.pt.l.length - k; omega) (Sub.cons rfl (Sub.cons rfl (Sub.cons rfl (Sub.cons rfl (Sub.consE rfl (by congr 1) (Sub.nil _))))))
       ·
        refine WP.exit (NX.thenExit (NX.thenExit ?_))
        refine NX.blkExit ?_
        refine NX.blk (NX.go (WP.region rfl ?_))
        refine WO.mv rfl rfl ?_
        refine WO.V (run_add rfl rfl (IntWalk.i64_in _ (by omega))) ?_
        refine WO.asg rfl rfl ?_
        refine WO.nil ?_
        exact NX.again (i + 1, some u) ⟨⟨by omega, fun h => by omega, fun q _ h => by rw [Nat.add_sub_cancel, hu] at h; cases h; rfl, by rw [← hgo, drop_cons hu, rowsGo_go hck hcm (by rw [← hpgo, List.drop_of_length_le (by omega)]; rfl)]⟩, hS22.drop.drop⟩ (by show b1.rs.l.length - (i + 1) < b1.rs.l.length - i; omega) (Sub.cons rfl (Sub.cons rfl (Sub.consE rfl (by congr 1) (Sub.nil _))))
    ·
     refine WP.exit (NX.thenExit (NX.thenExit ?_))
     refine NX.blkExit ?_
     refine NX.go (WP.seq (WP.seq (WP.region rfl ?_)))
     refine WO.asg rfl rfl ?_
     refine WO.nil (NX.go (WP.block ?_))
     have hS25 : St B (cel g2 (blc b1) 51 :: (dsA b1.ds) :: allA recA b1.ds.l :: (rsA b1.rs) :: allA mrA b1.rs.l :: blA b1 :: L) w4 := (hS4.permT [0, 2, 2] (L' := cel g2 (blc b1) 51 :: (dsA b1.ds) :: allA recA b1.ds.l :: (rsA b1.rs) :: allA mrA b1.rs.l :: blA b1 :: L) rfl)
     clear hS4
     refine WP.loop (α := Nat) (fun x => match x with | j => [(1, Value.pointer (some ⟨g2, 0, none⟩)), (2, Value.int .i64 0), (6, Value.int .i64 (j : Int))]) (fun x w => match x with | j => (j ≤ b1.ds.l.length ∧ delsOk (b1.ds.l.drop j) = delsOk b1.ds.l) ∧ St B (cel g2 (blc b1) 51 :: (dsA b1.ds) :: allA recA b1.ds.l :: (rsA b1.rs) :: allA mrA b1.rs.l :: blA b1 :: L) w) (fun x => match x with | j => b1.ds.l.length - j) 0 ⟨⟨Nat.zero_le _, rfl⟩, hS25⟩ (Sub.cons rfl (Sub.cons rfl (Sub.consE rfl (by first | rfl | first | rfl | (congr 1; omega) | (simp; done) | (simp; omega)) (Sub.nil _)))) ?_
     rintro j w26 ⟨⟨hj, hdgo⟩, hS26⟩
     clear hS25
     refine WP.seq (WP.seq (WP.region rfl ?_))
     refine WO.mv rfl rfl ?_
     refine WO.V (run_fa 3 ⟨g2, 3, none⟩ rfl rfl) ?_
     refine WO.V (run_load Ty.ag23 rfl ((hS26.cel_at 0 rfl 3).trans rfl)) ?_
     refine WO.V (run_len rfl Tryz.underlying23 rfl) ?_
     refine WO.V (run_lss rfl rfl) ?_
     refine WO.nil (NX.go ?_)
     refine WP.condP rfl (fun g93 => ?_) (fun g93 => ?_)
     ·
      refine WP.skip (NX.go (WP.seq (WP.block (WP.seq ?_))))
      obtain ⟨d1, hd1⟩ : ∃ qq, b1.ds.l[j]? = some qq := ⟨_, List.getElem?_eq_getElem (by omega)⟩
      have hsd : b1.ds.a.isSome = true := rd_isSome ((rdH_rd (hS26.focus 1 rfl))) (by omega)
      refine WP.region rfl ?_
      refine WO.V (run_fa 3 ⟨g2, 3, none⟩ rfl rfl) ?_
      refine WO.V (run_load Ty.ag23 rfl ((hS26.cel_at 0 rfl 3).trans rfl)) ?_
      refine WO.mv rfl rfl ?_
      refine WO.V (run_indexAddr (q := adr b1.ds.a (j * 5)) Tryz.underlying23 Ty.sz33 rfl rfl (by omega) (by omega) ((rdH_rd (hS26.focus 1 rfl)).2.1 (by omega)) rfl) ?_
      refine WO.V (run_fa 0 (adr b1.ds.a (j * 5 + 0)) rfl (adr_add _ (by assumption) _ _)) ?_
      refine WO.V (run_load Ty.ag3 rfl ((rdH_rd (hS26.focus 1 rfl)).cell ((flat_get rcc_len hd1 (j := 0) (by decide)).trans rfl))) ?_
      refine WO.V (run_neq rfl rfl) ?_
      refine WO.mv rfl rfl ?_
      refine dcase (p := ¬ d1.k = 2) (fun g103 d103 => ?_) (fun g103 d103 => ?_)
      ·
       refine WO.off rfl rfl d103 rfl ?_
       refine WO.off rfl rfl d103 rfl ?_
       refine WO.off rfl rfl d103 rfl ?_
       refine WO.off rfl rfl d103 rfl ?_
       refine WO.off rfl rfl d103 rfl ?_
       refine WO.off rfl rfl d103 rfl ?_
       refine WO.off rfl rfl d103 rfl ?_
       refine WO.V (run_pickT rfl d103 rfl) ?_
       refine WO.nil (NX.go ?_)
       refine WP.condT rfl rfl ?_
       refine WP.seq (WP.region rfl ?_)
       refine WO.asg rfl rfl ?_
       refine WO.nil (NX.go (WP.ret (NX.blkRet (NX.thenRet (NX.thenRet (NX.blkRet (NX.thenRet ?_)))))))
       refine NX.done (l := [.tmp 2]) rfl rfl ?_
       have hnb : ¬ (b1.first < 1 ∨ 99999999 < b1.to ∨ b1.to < b1.first) := by omega
       have hr0 : rowsGo none b1.rs.l = 0 := by rw [← hgo, List.drop_of_length_le (by omega)]; rfl
       have hdb : delsOk b1.ds.l = false := by rw [← hdgo, drop_cons hd1]; simp [delsOk, g103]
       exact ⟨congrArg (Value.int .i64) (by rw [checkB_dels hnb hr0, hdb]; rfl), hS26.drop.drop.drop.drop.drop⟩
      ·
       refine WO.on rfl rfl d103 ?_
       refine WO.V (run_fa 3 ⟨g2, 3, none⟩ rfl rfl) ?_
       refine WO.on rfl rfl d103 ?_
       refine WO.V (run_load Ty.ag23 rfl ((hS26.cel_at 0 rfl 3).trans rfl)) ?_
       refine WO.on rfl rfl d103 ?_
       refine WO.mv rfl rfl ?_
       refine WO.on rfl rfl d103 ?_
       refine WO.V (run_indexAddr (q := adr b1.ds.a (j * 5)) Tryz.underlying23 Ty.sz33 rfl rfl (by omega) (by omega) ((rdH_rd (hS26.focus 1 rfl)).2.1 (by omega)) rfl) ?_
       refine WO.on rfl rfl d103 ?_
       refine WO.V (run_loadAgg (vs := (rcc d1)) Ty.ag33 Ty.sz33 rfl ((rdH_rd (hS26.focus 1 rfl)).cells (by rw [flat_len rcc_len]; omega) (flat_part rcc_len hd1)).1 ((rdH_rd (hS26.focus 1 rfl)).cells (by rw [flat_len rcc_len]; omega) (flat_part rcc_len hd1)).2) ?_
       refine WO.on rfl rfl d103 ?_
       have hS27 := allA_get recA_pers (List.mem_of_getElem? hd1) (hS26.permT [2] (L' := allA recA b1.ds.l :: cel g2 (blc b1) 51 :: (dsA b1.ds) :: (rsA b1.rs) :: allA mrA b1.rs.l :: blA b1 :: L) rfl)
       clear hS26
       refine WO.call rfl rfl Ty.hd15 rfl (r12chk_spec d1 (hz.d d1 (List.mem_of_getElem? hd1)) hS27) (fun v29 w28 pv29 => ?_)
       obtain ⟨rfl, hS28⟩ := pv29
       clear hS27
       refine WO.on rfl rfl d103 ?_
       refine WO.V (run_neq rfl rfl) ?_
       refine WO.V (run_pickF rfl d103 rfl) ?_
       refine WO.nil (NX.go ?_)
       refine WP.condP rfl (fun g111 => ?_) (fun g111 => ?_)
       ·
        refine WP.seq (WP.region rfl ?_)
        refine WO.asg rfl rfl ?_
        refine WO.nil (NX.go (WP.ret (NX.blkRet (NX.thenRet (NX.thenRet (NX.blkRet (NX.thenRet ?_)))))))
        refine NX.done (l := [.tmp 2]) rfl rfl ?_
        have hnb : ¬ (b1.first < 1 ∨ 99999999 < b1.to ∨ b1.to < b1.first) := by omega
        have hr0 : rowsGo none b1.rs.l = 0 := by rw [← hgo, List.drop_of_length_le (by omega)]; rfl
        have hdb : delsOk b1.ds.l = false := by rw [← hdgo, drop_cons hd1]; simp [delsOk, g103, g111]
        exact ⟨congrArg (Value.int .i64) (by rw [checkB_dels hnb hr0, hdb]; rfl), hS28.drop.drop.drop.drop.drop.drop⟩
       ·
        refine WP.skip (NX.blk (NX.go (WP.region rfl ?_)))
        refine WO.mv rfl rfl ?_
        refine WO.V (run_add rfl rfl (IntWalk.i64_in _ (by omega))) ?_
        refine WO.asg rfl rfl ?_
        refine WO.nil ?_
        exact NX.again (j + 1) ⟨⟨by omega, by rw [← hdgo, drop_cons hd1]; simp [delsOk, g103, g111] <;> intros <;> omega⟩, (hS28.permT [0, 1, 1] (L' := recA d1 :: cel g2 (blc b1) 51 :: (dsA b1.ds) :: allA recA b1.ds.l :: (rsA b1.rs) :: allA mrA b1.rs.l :: blA b1 :: L) rfl).drop⟩ (by show b1.ds.l.length - (j + 1) < b1.ds.l.length - j; omega) (Sub.cons rfl (Sub.cons rfl (Sub.consE rfl (by congr 1) (Sub.nil _))))
     ·
      refine WP.exit (NX.thenExit (NX.thenExit ?_))
      refine NX.blkExit ?_
      refine NX.go (WP.seq (WP.region rfl ?_))
      refine WO.asg rfl rfl ?_
      refine WO.nil (NX.go (WP.ret ?_))
      refine NX.done (l := [.tmp 2]) rfl rfl ?_
      have hnb : ¬ (b1.first < 1 ∨ 99999999 < b1.to ∨ b1.to < b1.first) := by omega
      have hr0 : rowsGo none b1.rs.l = 0 := by rw [← hgo, List.drop_of_length_le (by omega)]; rfl
      exact ⟨congrArg (Value.int .i64) (by rw [checkB_dels hnb hr0, ← hdgo, List.drop_of_length_le (by omega)]; rfl), hS26.drop.drop.drop.drop.drop⟩
end Go.Proofs.YtidoidoelgfnaaaGreatDoor.SL

/- Greatest times: the reference; the program's blocks. -/
namespace Go.Proofs.YtidoidoelgfnaaaGreatDoor.SL
open Go.RowKit Go.Proofs.YtidoidoelgfnaaaGreatDoor
open Go.Proofs.YtidoidoelgfnaaaGreatDoorW.PrintLast (rtab opsOf)
set_option linter.unusedVariables false
set_option linter.unusedSimpArgs false

def rowsL : List RowP → List RowP → List RowP
  | [], S => S
  | r :: l, S => rowsL l (addF S r.lb r.last [])
def lastsA : List BlkP → List RowP → List RowP
  | [], S => S
  | b :: l, S => lastsA l (rowsL b.rows S)
theorem rd_nil2 {w : World} : Rd w none 0 2 [] := ⟨by simp, fun h => by omega, fun j hj => by omega⟩
theorem rlasts_spec {B w : World} {L : List HP} {X : HP} {a : Option Addr} {cap : Nat} {bs cs : List BlkV} (hX : ∀ {L : List HP} {w : World}, St B (X :: L) w → Rd w a bs.length 4 (bs.flatMap blc)) (hsub : ∀ b ∈ bs, b ∈ cs) (hbz : ∀ b ∈ bs, MzB b) (hbn : bs.length ≤ 1099511627776) (hrt : rtot bs ≤ 1099511627776) (hS : St B (X :: allA blA cs :: L) w) : Does Tryz.prog 28 [Value.slice a bs.length cap] w (fun v w1 => ∃ a1 c1, ∃ S1 : List MRow, v = .slice a1 S1.length c1 ∧ S1.map MRow.p = lastsA (bs.map BlkV.p) [] ∧ S1.length ≤ 1099511627776 ∧ (∀ r ∈ S1, r.lb.l.length ≤ 4398046511104) ∧ St B (own a1 S1.length c1 99 3 (S1.flatMap mrc) :: allA mrA S1 :: X :: allA blA cs :: L) w1) := by
 refine enter (n := 33) Tryz.func28 rfl rfl [Value.slice a bs.length cap] rfl ?_
 refine WP.seq (WP.region rfl ?_)
 refine WO.asg rfl rfl ?_
 refine WO.nil (NX.go (WP.seq (WP.region rfl ?_)))
 refine WO.asg rfl rfl ?_
 refine WO.nil (NX.go (WP.seq (WP.seq (WP.region rfl ?_))))
 refine WO.asg rfl rfl ?_
 refine WO.nil (NX.go (WP.block ?_))
 replace hS := (St.addPure trivial hS : St B (allA mrA [] :: X :: allA blA cs :: L) w)
 replace hS := hS.own_nil 99 3
 refine WP.loop (α := Nat × List MRow × Option Addr × Nat) (fun x => match x with | ⟨i, S, oa, oc⟩ => [(0, Value.slice a bs.length cap), (3, Value.slice oa S.length oc), (4, Value.int .i64 (i : Int))]) (fun x w => match x with | ⟨i, S, oa, oc⟩ => (i ≤ bs.length ∧ lastsA ((bs.drop i).map BlkV.p) (S.map MRow.p) = lastsA (bs.map BlkV.p) [] ∧ (∀ r ∈ S, r.lb.l.length ≤ 4398046511104) ∧ (∀ r ∈ S, r.pt.l.length ≤ 0) ∧ S.length + rtot (bs.drop i) ≤ 1099511627776) ∧ St B (own oa S.length oc 99 3 (S.flatMap mrc) :: allA mrA S :: X :: allA blA cs :: L) w) (fun x => match x with | ⟨i, S, oa, oc⟩ => bs.length - i) (0, [], none, 0) ⟨⟨Nat.zero_le _, rfl, (fun r h => by cases h), (fun r h => by cases h), (by simpa using hrt)⟩, hS⟩ (Sub.cons rfl (Sub.consE rfl (by first | rfl | first | rfl | (congr 1; omega) | (simp; done) | (simp; omega)) (Sub.consE rfl (by first | rfl | first | rfl | (congr 1; omega) | (simp; done) | (simp; omega)) (Sub.nil _)))) ?_
 rintro ⟨i, S, oa, oc⟩ w1 ⟨⟨hi, hgo, hlb, hM, hSn⟩, hS1⟩
 clear hS
 refine WP.seq (WP.seq (WP.region rfl ?_))
 refine WO.mv rfl rfl ?_
 refine WO.mv rfl rfl ?_
 refine WO.V (run_len rfl Tryz.underlying22 rfl) ?_
 refine WO.V (run_lss rfl rfl) ?_
 refine WO.nil (NX.go ?_)
 refine WP.condP rfl (fun g9 => ?_) (fun g9 => ?_)
 ·
  refine WP.skip (NX.go (WP.seq (WP.block (WP.seq ?_))))
  obtain ⟨b1, hbl⟩ : ∃ qq, bs[i]? = some qq := ⟨_, List.getElem?_eq_getElem (by omega)⟩
  have hS2 := blA_get (hsub b1 (List.mem_of_getElem? hbl)) (hS1.permT [3] (L' := allA blA cs :: own oa S.length oc 99 3 (S.flatMap mrc) :: allA mrA S :: X :: L) rfl)
  clear hS1
  have hS3 : St B ((rsA b1.rs) :: allA mrA b1.rs.l :: allA blA cs :: own oa S.length oc 99 3 (S.flatMap mrc) :: allA mrA S :: X :: L) w1 := (hS2.mask [true, true, false, false] (L' := (rsA b1.rs) :: allA mrA b1.rs.l :: allA blA cs :: own oa S.length oc 99 3 (S.flatMap mrc) :: allA mrA S :: X :: L) rfl)
  clear hS2
  have hbz1 := hbz b1 (List.mem_of_getElem? hbl)
  have hbr1 := hbz1.nr
  obtain ⟨S0, hS0⟩ : ∃ qq, S.map MRow.p = qq := ⟨_, rfl⟩
  rw [hS0] at hgo
  refine WP.region rfl ?_
  refine WO.asg rfl rfl ?_
  refine WO.nil (NX.go (WP.block ?_))
  refine WP.loop (α := Nat × List MRow × Option Addr × Nat) (fun x => match x with | ⟨k, S, oa, oc⟩ => [(0, Value.slice a bs.length cap), (3, Value.slice oa S.length oc), (4, Value.int .i64 (i : Int)), (5, Value.int .i64 (k : Int))]) (fun x w => match x with | ⟨k, S, oa, oc⟩ => (k ≤ b1.rs.l.length ∧ rowsL ((b1.rs.l.drop k).map MRow.p) (S.map MRow.p) = rowsL (b1.rs.l.map MRow.p) S0 ∧ (∀ r ∈ S, r.lb.l.length ≤ 4398046511104) ∧ (∀ r ∈ S, r.pt.l.length ≤ 0) ∧ S.length + (b1.rs.l.length - k + rtot (bs.drop (i + 1))) ≤ 1099511627776) ∧ St B (own oa S.length oc 99 3 (S.flatMap mrc) :: allA mrA S :: (rsA b1.rs) :: allA mrA b1.rs.l :: X :: allA blA cs :: L) w) (fun x => match x with | ⟨k, S, oa, oc⟩ => b1.rs.l.length - k) (0, S, oa, oc) ⟨⟨Nat.zero_le _, by rw [List.drop_zero, hS0], hlb, hM, by rw [drop_cons hbl] at hSn; simp only [rtot] at hSn; simp only [Nat.sub_zero]; omega⟩, (hS3.permT [3, 3, 0, 0, 1] (L' := own oa S.length oc 99 3 (S.flatMap mrc) :: allA mrA S :: (rsA b1.rs) :: allA mrA b1.rs.l :: X :: allA blA cs :: L) rfl)⟩ (Sub.cons rfl (Sub.cons rfl (Sub.cons rfl (Sub.consE rfl (by first | rfl | first | rfl | (congr 1; omega) | (simp; done) | (simp; omega)) (Sub.nil _))))) ?_
  rintro ⟨k, S, oa, oc⟩ w4 ⟨⟨hk4, hgo4, hlb, hM, hSn4⟩, hS4⟩
  clear hS3
  refine WP.seq (WP.seq ?_)
  have hsa : a.isSome = true := rd_isSome ((hX (hS4.focus 4 rfl))) (by omega)
  refine WP.region rfl ?_
  refine WO.mv rfl rfl ?_
  refine WO.mv rfl rfl ?_
  refine WO.mv rfl rfl ?_
  refine WO.V (run_indexAddr (q := adr a (i * 4)) Tryz.underlying22 Ty.sz51 rfl rfl (by omega) (by omega) ((hX (hS4.focus 4 rfl)).2.1 (by omega)) rfl) ?_
  refine WO.V (run_fa 2 (adr a (i * 4 + 2)) rfl (adr_add _ (by assumption) _ _)) ?_
  refine WO.V (run_load Ty.ag49 rfl ((hX (hS4.focus 4 rfl)).cell ((flat_get blc_len hbl (j := 2) (by decide)).trans rfl))) ?_
  refine WO.V (run_len rfl Tryz.underlying49 rfl) ?_
  refine WO.V (run_lss rfl rfl) ?_
  refine WO.nil (NX.go ?_)
  refine WP.condP rfl (fun g19 => ?_) (fun g19 => ?_)
  ·
   refine WP.skip (NX.go (WP.seq (WP.block ?_)))
   obtain ⟨u, hu⟩ : ∃ qq, b1.rs.l[k]? = some qq := ⟨_, List.getElem?_eq_getElem (by omega)⟩
   refine WP.region rfl ?_
   refine WO.mv rfl rfl ?_
   refine WO.mv rfl rfl ?_
   refine WO.mv rfl rfl ?_
   refine WO.V (run_indexAddr (q := adr a (i * 4)) Tryz.underlying22 Ty.sz51 rfl rfl (by omega) (by omega) ((hX (hS4.focus 4 rfl)).2.1 (by omega)) rfl) ?_
   refine WO.V (run_fa 2 (adr a (i * 4 + 2)) rfl (adr_add _ (by assumption) _ _)) ?_
   refine WO.V (run_load Ty.ag49 rfl ((hX (hS4.focus 4 rfl)).cell ((flat_get blc_len hbl (j := 2) (by decide)).trans rfl))) ?_
   refine WO.mv rfl rfl ?_
   refine WO.V (run_indexAddr (q := adr b1.rs.a (k * 3)) Tryz.underlying49 Ty.sz99 rfl rfl (by omega) (by omega) ((rdH_rd (hS4.focus 2 rfl)).2.1 (by omega)) rfl) ?_
   refine WO.V (run_loadAgg (vs := (mrc u)) Ty.ag99 Ty.sz99 rfl ((rdH_rd (hS4.focus 2 rfl)).cells (by rw [flat_len mrc_len]; omega) (flat_part mrc_len hu)).1 ((rdH_rd (hS4.focus 2 rfl)).cells (by rw [flat_len mrc_len]; omega) (flat_part mrc_len hu)).2) ?_
   have hS5 : St B (.pure True :: own oa S.length oc 99 3 (S.flatMap mrc) :: allA mrA S :: (rsA b1.rs) :: allA mrA b1.rs.l :: X :: allA blA cs :: L) w4 := hS4.addPure trivial
   clear hS4
   have hS6 := mrA_get (List.mem_of_getElem? hu) (hS5.permT [4] (L' := allA mrA b1.rs.l :: .pure True :: own oa S.length oc 99 3 (S.flatMap mrc) :: allA mrA S :: (rsA b1.rs) :: X :: allA blA cs :: L) rfl)
   clear hS5
   have hS7 := hS6.permT [4, 4, 0, 2] (L' := own oa S.length oc 99 3 (S.flatMap mrc) :: allA mrA S :: (labA u.lb) :: .pure True :: (ptsA u.pt) :: allA mrA b1.rs.l :: (rsA b1.rs) :: X :: allA blA cs :: L) rfl
   clear hS6
   refine WO.call rfl rfl Ty.hd62 rfl (radd_spec (Y := .pure True) (b := none) (cap2 := 0) (ps := []) (M := 0) (fun _ => rd_nil2) u (by omega) hlb (hbz1.r u (List.mem_of_getElem? hu)).1 hM (by decide) hS7) (fun v9 w8 pv9 => ?_)
   obtain ⟨a2, c2, S2, rfl, hS2, hn2, hlb2, hM2, hS8⟩ := pv9
   clear hS7
   refine WO.asg rfl rfl ?_
   refine WO.nil (NX.blk (NX.go (WP.region rfl ?_)))
   refine WO.mv rfl rfl ?_
   refine WO.V (run_add rfl rfl (IntWalk.i64_in _ (by omega))) ?_
   refine WO.asg rfl rfl ?_
   refine WO.nil ?_
   exact NX.again (k + 1, S2, a2, c2) ⟨⟨by omega, by rw [drop_cons hu, List.map_cons, rowsL] at hgo4; rw [hS2]; exact hgo4, hlb2, hM2, by omega⟩, ((hS8.mask [true, true, false, false, false] (L' := own a2 S2.length c2 99 3 (S2.flatMap mrc) :: allA mrA S2 :: allA mrA b1.rs.l :: (rsA b1.rs) :: X :: allA blA cs :: L) rfl).permT [0, 0, 1] (L' := own a2 S2.length c2 99 3 (S2.flatMap mrc) :: allA mrA S2 :: (rsA b1.rs) :: allA mrA b1.rs.l :: X :: allA blA cs :: L) rfl)⟩ (by show b1.rs.l.length - (k + 1) < b1.rs.l.length - k; omega) (Sub.cons rfl (Sub.consE rfl (by first | rfl | (congr 1; omega) | (simp; done) | (simp; omega)) (Sub.cons rfl (Sub.consE rfl (by congr 1) (Sub.nil _)))))
  ·
   refine WP.exit (NX.thenExit (NX.thenExit ?_))
   refine NX.blkExit ?_
   refine NX.blk (NX.go (WP.region rfl ?_))
   refine WO.mv rfl rfl ?_
   refine WO.V (run_add rfl rfl (IntWalk.i64_in _ (by omega))) ?_
   refine WO.asg rfl rfl ?_
   refine WO.nil ?_
   exact NX.again (i + 1, S, oa, oc) ⟨⟨by omega, by rw [List.drop_of_length_le (by omega)] at hgo4; rw [drop_cons hbl] at hgo; rw [← hgo, List.map_cons, lastsA, show b1.p.rows = b1.rs.l.map MRow.p from rfl, ← hgo4]; rfl, hlb, hM, by omega⟩, (hS4.mask [true, true, false, false] (L' := own oa S.length oc 99 3 (S.flatMap mrc) :: allA mrA S :: X :: allA blA cs :: L) rfl)⟩ (by show bs.length - (i + 1) < bs.length - i; omega) (Sub.cons rfl (Sub.consE rfl (by first | rfl | (congr 1; omega) | (simp; done) | (simp; omega)) (Sub.consE rfl (by congr 1) (Sub.nil _))))
 ·
  refine WP.exit (NX.thenExit (NX.thenExit ?_))
  refine NX.blkExit ?_
  refine NX.go (WP.seq (WP.region rfl ?_))
  refine WO.mv rfl rfl ?_
  refine WO.asg rfl rfl ?_
  refine WO.nil (NX.go (WP.ret ?_))
  refine NX.done (l := [.tmp 2]) rfl rfl ?_
  exact ⟨oa, oc, S, rfl, by rw [← hgo, List.drop_of_length_le (by omega)]; rfl, by omega, hlb, hS1⟩
theorem to16_spec {B w : World} {L : List HP} {X : HP} {a : Option Addr} {cap : Nat} {bs : List BlkV} (hX : ∀ {L : List HP} {w : World}, St B (X :: L) w → Rd w a bs.length 4 (bs.flatMap blc)) (hbz : ∀ b ∈ bs, MzB b) (hbn : bs.length ≤ 1099511627776) (hS : St B (X :: allA blA bs :: L) w) : Does Tryz.prog 19 [Value.slice a bs.length cap] w (fun v w1 => ∃ a1 k1, ∃ Cs : List BlkV, v = .slice a1 Cs.length k1 ∧ Cs.map BlkV.p = bs.map BlkV.p ∧ St B (own a1 Cs.length k1 46 4 (Cs.flatMap blc) :: allA blA Cs :: X :: allA blA bs :: L) w1) := by
 refine enter (n := 20) Tryz.func19 rfl rfl [Value.slice a bs.length cap] rfl ?_
 refine WP.seq (WP.region rfl ?_)
 refine WO.asg rfl rfl ?_
 refine WO.nil (NX.go (WP.seq (WP.region rfl ?_)))
 refine WO.asg rfl rfl ?_
 refine WO.nil (NX.go (WP.seq (WP.seq (WP.region rfl ?_))))
 refine WO.asg rfl rfl ?_
 refine WO.nil (NX.go (WP.block ?_))
 replace hS := (St.addPure trivial hS : St B (allA blA [] :: X :: allA blA bs :: L) w)
 replace hS := hS.own_nil 46 4
 refine WP.loop (α := Nat × List BlkV × Option Addr × Nat) (fun x => match x with | ⟨i, Cs, oa, oc⟩ => [(0, Value.slice a bs.length cap), (3, Value.slice oa Cs.length oc), (4, Value.int .i64 (i : Int))]) (fun x w => match x with | ⟨i, Cs, oa, oc⟩ => (i ≤ bs.length ∧ Cs.map BlkV.p = (bs.take i).map BlkV.p ∧ Cs.length = i) ∧ St B (own oa Cs.length oc 46 4 (Cs.flatMap blc) :: allA blA Cs :: X :: allA blA bs :: L) w) (fun x => match x with | ⟨i, Cs, oa, oc⟩ => bs.length - i) (0, [], none, 0) ⟨⟨Nat.zero_le _, rfl, rfl⟩, hS⟩ (Sub.cons rfl (Sub.consE rfl (by first | rfl | first | rfl | (congr 1; omega) | (simp; done) | (simp; omega)) (Sub.consE rfl (by first | rfl | first | rfl | (congr 1; omega) | (simp; done) | (simp; omega)) (Sub.nil _)))) ?_
 rintro ⟨i, Cs, oa, oc⟩ w1 ⟨⟨hi, hCs, hCn⟩, hS1⟩
 clear hS
 refine WP.seq (WP.seq (WP.region rfl ?_))
 refine WO.mv rfl rfl ?_
 refine WO.mv rfl rfl ?_
 refine WO.V (run_len rfl Tryz.underlying22 rfl) ?_
 refine WO.V (run_lss rfl rfl) ?_
 refine WO.nil (NX.go ?_)
 refine WP.condP rfl (fun g8 => ?_) (fun g8 => ?_)
 ·
  refine WP.skip (NX.go (WP.seq (WP.block ?_)))
  obtain ⟨b1, hb1⟩ : ∃ qq, bs[i]? = some qq := ⟨_, List.getElem?_eq_getElem (by omega)⟩
  refine WP.region rfl ?_
  refine WO.mv rfl rfl ?_
  refine WO.mv rfl rfl ?_
  refine WO.mv rfl rfl ?_
  refine WO.V (run_indexAddr (q := adr a (i * 4)) Tryz.underlying22 Ty.sz51 rfl rfl (by omega) (by omega) ((hX (hS1.focus 2 rfl)).2.1 (by omega)) rfl) ?_
  refine WO.V (run_loadAgg (vs := (blc b1)) Ty.ag51 Ty.sz51 rfl ((hX (hS1.focus 2 rfl)).cells (by rw [flat_len blc_len]; omega) (flat_part blc_len hb1)).1 ((hX (hS1.focus 2 rfl)).cells (by rw [flat_len blc_len]; omega) (flat_part blc_len hb1)).2) ?_
  have hS2 := allA_get blA_pers (List.mem_of_getElem? hb1) (hS1.permT [3] (L' := allA blA bs :: own oa Cs.length oc 46 4 (Cs.flatMap blc) :: allA blA Cs :: X :: L) rfl)
  clear hS1
  refine WO.call rfl rfl Ty.hd54 rfl (to15_spec b1 (hbz b1 (List.mem_of_getElem? hb1)) hS2) (fun v4 w3 pv4 => ?_)
  obtain ⟨c1, rfl, hc1, hS3⟩ := pv4
  clear hS2
  refine WO.buildSlice (l := (blc c1)) hS3 Tryz.underlying39 rfl (fun w => by kernel_rfl) rfl (fun g6 w5 lg6 hS5 => ?_)
  clear hS3
  refine WO.append (news := (blc c1)) 4 rfl Tryz.underlying39 Tryz.underlying39 (fun _ h => by cases h) Ty.sz46 (by decide) Ty.by46 Ty.zr46 rfl rfl rfl rfl hS5 rfl ((hS5.cel_rd 0 rfl (o := 0) (m := 1) (k := 4) rfl (Nat.le_of_ble_eq_true rfl)).src) rfl (by omega) (by omega) (fun a8 c9 w7 hS7 => ?_)
  replace hS7 : St B (cel g6 (blc c1) 46 :: blA c1 :: blA b1 :: allA blA bs :: own a8 (Cs.length + 1) c9 46 4 ((Cs.flatMap blc) ++ (blc c1)) :: allA blA Cs :: X :: L) w7 := hS7
  clear hS5
  refine WO.asg rfl rfl ?_
  refine WO.nil (NX.blk (NX.go (WP.region rfl ?_)))
  refine WO.mv rfl rfl ?_
  refine WO.V (run_add rfl rfl (IntWalk.i64_in _ (by omega))) ?_
  refine WO.asg rfl rfl ?_
  refine WO.nil ?_
  have hS10 := allA_snoc (hS7.permT [5, 1] (L' := allA blA Cs :: blA c1 :: cel g6 (blc c1) 46 :: blA b1 :: allA blA bs :: own a8 (Cs.length + 1) c9 46 4 ((Cs.flatMap blc) ++ (blc c1)) :: X :: L) rfl)
  clear hS7
  exact NX.again (i + 1, Cs ++ [c1], a8, c9) ⟨⟨by omega, by rw [take_snocM hb1, List.map_append, List.map_append, hCs, List.map_cons, hc1]; rfl, by rw [List.length_append, hCn]; rfl⟩, own_eqM ((hS10.mask [true, false, false] (L' := allA blA (Cs ++ [c1]) :: allA blA bs :: own a8 (Cs.length + 1) c9 46 4 ((Cs.flatMap blc) ++ (blc c1)) :: X :: L) rfl).permT [2, 0, 1] (L' := own a8 (Cs.length + 1) c9 46 4 ((Cs.flatMap blc) ++ (blc c1)) :: allA blA (Cs ++ [c1]) :: X :: allA blA bs :: L) rfl) (by simp) (by simp [blc])⟩ (by show bs.length - (i + 1) < bs.length - i; omega) (Sub.cons rfl (Sub.consE rfl (by simp) (Sub.consE rfl (by congr 1) (Sub.nil _))))
 ·
  refine WP.exit (NX.thenExit (NX.thenExit ?_))
  refine NX.blkExit ?_
  refine NX.go (WP.seq (WP.region rfl ?_))
  refine WO.mv rfl rfl ?_
  refine WO.asg rfl rfl ?_
  refine WO.nil (NX.go (WP.ret ?_))
  refine NX.done (l := [.tmp 2]) rfl rfl ?_
  exact ⟨oa, oc, Cs, rfl, by rw [hCs, List.take_of_length_le (by omega)], hS1⟩
end Go.Proofs.YtidoidoelgfnaaaGreatDoor.SL

/- Blocks that follow one another: the reference. -/
namespace Go.Proofs.YtidoidoelgfnaaaGreatDoor.SL
open Go.RowKit Go.Proofs.YtidoidoelgfnaaaGreatDoor
open Go.Proofs.YtidoidoelgfnaaaGreatDoorW.PrintLast (rtab opsOf)
set_option linter.unusedVariables false
set_option linter.unusedSimpArgs false

theorem rd_takeB {B : World} {X : HP} {a : Option Addr} {i : Nat} {bs : List BlkV} (hX : ∀ {L : List HP} {w : World}, St B (X :: L) w → Rd w a bs.length 4 (bs.flatMap blc)) (hi : i ≤ bs.length) : ∀ {L : List HP} {w : World}, St B (X :: L) w → Rd w a (bs.take i).length 4 ((bs.take i).flatMap blc) := fun {L w} h => by
  have := (hX h).take (m := i) hi
  rw [flat_take blc_len] at this
  rw [List.length_take, Nat.min_eq_left hi]; exact this
theorem checkB_to {b : BlkV} (h : checkB b = 0) : 1 ≤ b.first ∧ b.first ≤ b.to ∧ b.to ≤ 99999999 := by
  unfold checkB at h
  split at h
  · omega
  · omega
theorem wsum_ge : ∀ {l : List MRow}, (∀ r ∈ l, chk r.lb.l = true) → 10 * l.length + rsum l ≤ wsum l
  | [], _ => by simp [rsum, wsum]
  | r :: l, h => by
    have h1 := (chk_sz (h r (by simp))).2.1
    have h2 := wsum_ge (l := l) fun q hq => h q (by simp [hq])
    rw [List.length_cons, rsum, wsum]; omega
theorem tots {bs : List BlkV} (h : ∀ b ∈ bs, checkB b = 0) (hw : ∀ b ∈ bs, wgt b ≤ 1999) : rtot bs ≤ 200 * bs.length ∧ ptot bs ≤ 2000 * bs.length ∧ dtot bs ≤ 2000 * bs.length := by
  induction bs with
  | nil => simp [rtot, ptot, dtot]
  | cons b l ih =>
    have h1 := wsum_ge (checkB_chk (h b (by simp)))
    have h2 := hw b (by simp)
    have h3 := ih (fun q hq => h q (by simp [hq])) (fun q hq => hw q (by simp [hq]))
    unfold wgt at h2
    rw [rtot, ptot, dtot, List.length_cons]; omega
end Go.Proofs.YtidoidoelgfnaaaGreatDoor.SL

/- Blocks that follow one another: the reference, exactly. -/
namespace Go.Proofs.YtidoidoelgfnaaaGreatDoor.SL
open Go.RowKit Go.Proofs.YtidoidoelgfnaaaGreatDoor
open Go.Proofs.YtidoidoelgfnaaaGreatDoorW.PrintLast (rtab opsOf)
set_option linter.unusedVariables false
set_option linter.unusedSimpArgs false

def chkAll : List BlkV → Int
  | [] => 0
  | b :: l => if ¬ checkB b = 0 then checkB b else chkAll l
def clashP (A : List RowP) (r : RowP) : Bool := A.any fun q => decide (q.lb = r.lb) && (match r.pts.head? with | some p => decide (p.t ≤ q.last) | none => false)
def ordGo (nx : Int) (A : List RowP) : List BlkV → Int
  | [] => 0
  | b :: l => if ¬ b.first = nx then 9 else if b.rs.l.any (fun r => clashP A r.p) = true then 9 else ordGo (b.to + 1) (rowsL (b.rs.l.map MRow.p) A) l
def followV (bs : List BlkV) : Int := if ¬ chkAll bs = 0 then chkAll bs else ordGo 1 [] bs
theorem chkAll_zero : ∀ {l : List BlkV}, (∀ b ∈ l, checkB b = 0) → chkAll l = 0
  | [], _ => rfl
  | b :: l, h => by rw [chkAll, if_neg (by simp [h b (by simp)])]; exact chkAll_zero fun q hq => h q (by simp [hq])
theorem chkAll_at : ∀ {l : List BlkV} {i : Nat} {b : BlkV}, (∀ j q, j < i → l[j]? = some q → checkB q = 0) → l[i]? = some b → ¬ checkB b = 0 → chkAll l = checkB b
  | [], i, b, _, h, _ => by simp at h
  | c :: l, 0, b, _, h, hb => by simp at h; subst h; rw [chkAll, if_pos hb]
  | c :: l, i + 1, b, hz, h, hb => by
    rw [chkAll, if_neg (by simp [hz 0 c (by omega) rfl])]
    exact chkAll_at (fun j q hj hq => hz (j + 1) q (Nat.succ_lt_succ hj) (by simpa using hq)) (by simpa using h) hb
theorem chkAll_ok : ∀ {l : List BlkV}, chkAll l = 0 → ∀ b ∈ l, checkB b = 0
  | [], _, b, hb => by cases hb
  | c :: l, h, b, hb => by
    rw [chkAll] at h
    split at h
    · rename_i hc; exact absurd h hc
    · rename_i hc
      rcases List.mem_cons.1 hb with e | hb
      · rw [e]; simpa using hc
      · exact chkAll_ok h b hb
theorem rowsL_srt : ∀ {l S : List RowP}, SrtR S → SrtR (rowsL l S)
  | [], _, h => h
  | r :: l, S, h => by rw [rowsL]; exact rowsL_srt (addF_srt h)
theorem lastsA_srt : ∀ {l : List BlkP} {S : List RowP}, SrtR S → SrtR (lastsA l S)
  | [], _, h => h
  | b :: l, S, h => by rw [lastsA]; exact lastsA_srt (rowsL_srt h)
theorem lastsA_snoc : ∀ (l : List BlkP) (b : BlkP) (S : List RowP), lastsA (l ++ [b]) S = rowsL b.rows (lastsA l S)
  | [], b, S => rfl
  | c :: l, b, S => by rw [List.cons_append, lastsA, lastsA, lastsA_snoc l b]
theorem has_of_mem : ∀ {S : List MRow} {p : List Pr}, SrtR (S.map MRow.p) → ∀ {r : MRow}, r ∈ S → r.lb.l = p → hasR S p = true
  | [], _, _, r, hr, _ => by cases hr
  | z :: l, p, hs, r, hr, e => by
    rw [List.map_cons] at hs
    have hh := List.pairwise_cons.1 hs
    rcases List.mem_cons.1 hr with e1 | hr
    · subst e1
      unfold hasR
      rw [show atR (r :: l) p = 0 by rw [atR, if_neg (by rw [e, cmp_self]; omega)]]
      simp [e]
    · have h1 : cmpF z.lb.l p < 0 := by rw [← e]; exact hh.1 r.p (List.mem_map.2 ⟨r, hr, rfl⟩)
      have ih := has_of_mem (p := p) hh.2 hr e
      unfold hasR at ih ⊢
      rw [show atR (z :: l) p = atR l p + 1 by rw [atR, if_pos h1], List.getElem?_cons_succ]; exact ih
theorem clash_no {A : List MRow} {u : MRow} (hs : SrtR (A.map MRow.p)) (h : hasR A u.lb.l = false) : clashP (A.map MRow.p) u.p = false := by
  unfold clashP
  rw [List.any_eq_false]
  intro q hq hc
  obtain ⟨r, hr, rfl⟩ := List.mem_map.1 hq
  simp only [Bool.and_eq_true, decide_eq_true_eq] at hc
  rw [has_of_mem hs hr (show r.lb.l = u.lb.l from hc.1)] at h; cases h
theorem clash_nil {A : List RowP} {u : MRow} (h : u.pt.l = []) : clashP A u.p = false := by
  unfold clashP
  rw [List.any_eq_false]
  intro q _ hc
  rw [show u.p.pts = [] from h] at hc
  simp at hc
theorem clash_at {A : List MRow} {u ar : MRow} {p0 : Pt} (hs : SrtR (A.map MRow.p)) (h : hasR A u.lb.l = true) (har : A[atR A u.lb.l]? = some ar) (hp : u.pt.l[0]? = some p0) : clashP (A.map MRow.p) u.p = decide (p0.t ≤ ar.last) := by
  have hlb : ar.lb.l = u.lb.l := by unfold hasR at h; rw [har] at h; simpa using h
  have hhd : u.p.pts.head? = some p0 := by show u.pt.l.head? = _; rw [List.head?_eq_getElem?]; exact hp
  have hm : ar.p ∈ A.map MRow.p := List.mem_map.2 ⟨ar, List.mem_of_getElem? har, rfl⟩
  unfold clashP
  rw [hhd]
  apply Bool.eq_iff_iff.2
  rw [List.any_eq_true, decide_eq_true_eq]
  constructor
  · rintro ⟨q, hq, hc⟩
    simp only [Bool.and_eq_true, decide_eq_true_eq] at hc
    have : q = ar.p := srt_one hs hq hm (hc.1.trans hlb.symm)
    rw [this] at hc; exact hc.2
  · intro hle
    exact ⟨ar.p, hm, by simp only [Bool.and_eq_true, decide_eq_true_eq]; exact ⟨hlb, hle⟩⟩
theorem tx13_10 : rtab .any (opsOf Tryz.f13 10) = (true, [([], []), ([0], [0]), ([1], [1]), ([2], [2]), ([2], [2]), ([3, 4, 2], [2, 3, 4]), ([5, 2], [2, 5]), ([6, 2], [2, 6]), ([7, 2], [2, 7]), ([2, 8], [2, 8]), ([9, 2], [9]), ([10], [10]), ([11, 10], [10, 11]), ([12, 10, 10], [10, 12]), ([13], [13]), ([13], [13]), ([14, 15, 13], [13, 14, 15]), ([16, 13], [13, 16]), ([17, 13], [13, 17]), ([13], [13]), ([13], [13]), ([20, 13], [13, 20]), ([19, 21, 13], [13, 19, 21]), ([22, 13], [13, 22]), ([23, 13], [13, 23]), ([24, 13], [13, 24]), ([18, 25, 13], [13, 18, 25]), ([13, 26, 10], [10, 13, 26]), ([10, 27], [10, 27])]) := by kernel_rfl
theorem tx13_18 : rtab .any (opsOf Tryz.f13 18) = (true, [([], []), ([0], [0]), ([1], [1]), ([2, 1], [1, 2]), ([3, 1], [1, 3]), ([4, 1], [1, 4]), ([1, 5], [1, 5]), ([6, 1], [6]), ([7], [7]), ([8, 7], [7, 8]), ([9, 7], [7, 9]), ([10, 7], [7, 10]), ([11, 7], [7, 11]), ([7], [7]), ([7], [7]), ([13, 14, 7], [7, 13, 14]), ([15, 7], [7, 15]), ([16, 7], [7, 16]), ([12, 17, 7], [7, 12, 17]), ([7, 18], [7, 18])]) := by kernel_rfl
theorem rfollowx_spec {B w : World} {L : List HP} {X : HP} {a : Option Addr} {cap : Nat} {bs : List BlkV} (hX : ∀ {L : List HP} {w : World}, St B (X :: L) w → Rd w a bs.length 4 (bs.flatMap blc)) (hbz : ∀ b ∈ bs, MzB b) (hcp : bs.length ≤ cap) (hw8 : bs.length ≤ 8) (hwg : ∀ b ∈ bs, wgt b ≤ 1999) (hS : St B (X :: allA blA bs :: L) w) : Does Tryz.prog 13 [Value.slice a bs.length cap] w (fun v w1 => v = .int .i64 (followV bs) ∧ St B (X :: allA blA bs :: L) w1) := by
 refine enter (n := 109) Tryz.func13 rfl rfl [Value.slice a bs.length cap] rfl ?_
 refine WP.seq (WP.region rfl ?_)
 refine WO.asg rfl rfl ?_
 refine WO.nil (NX.go (WP.seq (WP.seq (WP.region rfl ?_))))
 refine WO.asg rfl rfl ?_
 refine WO.nil (NX.go (WP.block ?_))
 refine WP.loop (α := Nat) (fun x => match x with | i => [(0, Value.slice a bs.length cap), (3, Value.int .i64 (i : Int))]) (fun x w => match x with | i => (i ≤ bs.length ∧ ∀ j b, j < i → bs[j]? = some b → checkB b = 0) ∧ St B (X :: allA blA bs :: L) w) (fun x => match x with | i => bs.length - i) 0 ⟨⟨Nat.zero_le _, fun j b h => absurd h (by omega)⟩, hS⟩ (Sub.cons rfl (Sub.consE rfl (by first | rfl | first | rfl | (congr 1; omega) | (simp; done) | (simp; omega)) (Sub.nil _))) ?_
 rintro i w1 ⟨⟨hi, hall⟩, hS1⟩
 clear hS
 refine WP.seq (WP.seq (WP.region rfl ?_))
 refine WO.mv rfl rfl ?_
 refine WO.mv rfl rfl ?_
 refine WO.V (run_len rfl Tryz.underlying22 rfl) ?_
 refine WO.V (run_lss rfl rfl) ?_
 refine WO.nil (NX.go ?_)
 refine WP.condP rfl (fun g14 => ?_) (fun g14 => ?_)
 ·
  refine WP.skip (NX.go (WP.seq (WP.block (WP.seq ?_))))
  obtain ⟨b1, hb1⟩ : ∃ qq, bs[i]? = some qq := ⟨_, List.getElem?_eq_getElem (by omega)⟩
  refine WP.region rfl ?_
  refine WO.mv rfl rfl ?_
  refine WO.mv rfl rfl ?_
  refine WO.V (run_indexAddr (q := adr a (i * 4)) Tryz.underlying22 Ty.sz51 rfl rfl (by omega) (by omega) ((hX (hS1.focus 0 rfl)).2.1 (by omega)) rfl) ?_
  refine WO.V (run_loadAgg (vs := (blc b1)) Ty.ag51 Ty.sz51 rfl ((hX (hS1.focus 0 rfl)).cells (by rw [flat_len blc_len]; omega) (flat_part blc_len hb1)).1 ((hX (hS1.focus 0 rfl)).cells (by rw [flat_len blc_len]; omega) (flat_part blc_len hb1)).2) ?_
  have hS2 := allA_get blA_pers (List.mem_of_getElem? hb1) (hS1.permT [1] (L' := allA blA bs :: X :: L) rfl)
  clear hS1
  refine WO.call rfl rfl Ty.hd47 rfl (r15chk_spec b1 (hbz b1 (List.mem_of_getElem? hb1)) hS2) (fun v4 w3 pv4 => ?_)
  obtain ⟨rfl, hS3⟩ := pv4
  clear hS2
  refine WO.asg rfl rfl ?_
  refine WO.nil (NX.go (WP.seq (WP.region rfl ?_)))
  refine WO.mv rfl rfl ?_
  refine WO.V (run_neq rfl rfl) ?_
  refine WO.nil (NX.go ?_)
  refine WP.condP rfl (fun g23 => ?_) (fun g23 => ?_)
  ·
   refine WP.seq (WP.region rfl ?_)
   refine WO.mv rfl rfl ?_
   refine WO.asg rfl rfl ?_
   refine WO.nil (NX.go (WP.ret (NX.blkRet (NX.thenRet (NX.thenRet (NX.blkRet (NX.thenRet ?_)))))))
   refine NX.done (l := [.tmp 2]) rfl rfl ?_
   have h9 := chkAll_at hall hb1 g23
   have h8 : ¬ chkAll bs = 0 := by rw [h9]; exact g23
   exact ⟨congrArg (Value.int .i64) (by unfold followV; rw [if_pos h8, h9]), (hS3.permT [0, 1] (L' := blA b1 :: X :: allA blA bs :: L) rfl).drop⟩
  ·
   refine WP.skip (NX.blk (NX.go (WP.region rfl ?_)))
   refine WO.mv rfl rfl ?_
   refine WO.V (run_add rfl rfl (IntWalk.i64_in _ (by omega))) ?_
   refine WO.asg rfl rfl ?_
   refine WO.nil ?_
   exact NX.again (i + 1) ⟨⟨by omega, upto_next hall hb1 (by simpa using g23)⟩, (hS3.permT [0, 1] (L' := blA b1 :: X :: allA blA bs :: L) rfl).drop⟩ (by show bs.length - (i + 1) < bs.length - i; omega) (Sub.cons rfl (Sub.consE rfl (by congr 1) (Sub.nil _)))
 ·
  refine WP.exit (NX.thenExit (NX.thenExit ?_))
  refine NX.blkExit ?_
  refine NX.go (WP.seq (WP.seq ?_))
  have hchk : ∀ b ∈ bs, checkB b = 0 := fun b hb => by obtain ⟨j, hj⟩ := List.mem_iff_getElem?.1 hb; exact hall j b (by have := (List.getElem?_eq_some_iff.1 hj).1; omega) hj
  refine WP.region rfl ?_
  refine WO.asg rfl rfl ?_
  refine WO.nil (NX.go (WP.block ?_))
  refine WP.loop (α := Nat × Int) (fun x => match x with | ⟨i, nx⟩ => [(0, Value.slice a bs.length cap), (5, Value.int .i64 (i : Int))]) (fun x w => match x with | ⟨i, nx⟩ => (i ≤ bs.length ∧ (i = 0 → nx = 1) ∧ (∀ q, 0 < i → bs[i - 1]? = some q → nx = q.to + 1) ∧ ordGo nx (lastsA ((bs.take i).map BlkV.p) []) (bs.drop i) = ordGo 1 [] bs) ∧ St B (X :: allA blA bs :: L) w) (fun x => match x with | ⟨i, nx⟩ => bs.length - i) (0, 1) ⟨⟨Nat.zero_le _, fun _ => rfl, fun q h => absurd h (by omega), rfl⟩, hS1⟩ (Sub.cons rfl (Sub.consE rfl (by first | rfl | first | rfl | (congr 1; omega) | (simp; done) | (simp; omega)) (Sub.nil _))) ?_
  rintro ⟨i, nx⟩ w5 ⟨⟨hi, hz0, hqn, hgo⟩, hS5⟩
  clear hS1
  refine WP.seq (WP.seq (WP.region rfl ?_))
  refine WO.mv rfl rfl ?_
  refine WO.mv rfl rfl ?_
  refine WO.V (run_len rfl Tryz.underlying22 rfl) ?_
  refine WO.V (run_lss rfl rfl) ?_
  refine WO.nil (NX.go ?_)
  refine WP.condP rfl (fun g28 => ?_) (fun g28 => ?_)
  ·
   refine WP.skip (NX.go (WP.seq (WP.block (WP.seq (WP.seq ?_)))))
   obtain ⟨b1, hb1⟩ : ∃ qq, bs[i]? = some qq := ⟨_, List.getElem?_eq_getElem (by omega)⟩
   have hsa : a.isSome = true := rd_isSome ((hX (hS5.focus 0 rfl))) (by omega)
   have hqe : 0 < i → ∃ q, bs[i - 1]? = some q := fun h => ⟨_, List.getElem?_eq_getElem (by omega)⟩
   refine WD.start (fun w => Rd w a bs.length 4 (bs.flatMap blc)) [] (bt 29 0) Ty.mo rfl (by kernel_rfl) hS5 (fun _ h => (hX (h.focus 0 rfl))) (fun w6 hS6 s7 => ?_)
   clear hS5
   refine DP (i := 0) tx13_10 (bt 29 1) rfl rfl rfl rfl (fun w => run_move rfl) ?_
   refine DP (i := 1) tx13_10 (bt 29 3) rfl rfl rfl rfl (fun w => run_eql rfl rfl) ?_
   refine DP (i := 2) tx13_10 (bt 29 7) rfl rfl rfl rfl (fun w => run_move rfl) ?_
   refine dcase (p := (i : Int) = 0) (fun g33 d33 => ?_) (fun g33 d33 => ?_)
   ·
    refine DPn (i := 3) tx13_10 (bt 29 15) rfl rfl rfl d33 rfl (fun w => run_move rfl) ?_
    refine DPn (i := 4) tx13_10 (bt 29 31) rfl rfl rfl d33 rfl (fun w => run_move rfl) ?_
    refine DTn (i := 5) tx13_10 (bt 29 63) s7 rfl rfl rfl d33 rfl (fun w hs => run_indexAddr (q := adr a (i * 4)) Tryz.underlying22 Ty.sz51 rfl rfl (by omega) (by omega) ((hs).2.1 (by omega)) rfl) ?_
    refine DPn (i := 6) tx13_10 (bt 29 127) rfl rfl rfl d33 rfl (fun w => run_fa 0 (adr a (i * 4 + 0)) rfl (adr_add _ (by assumption) _ _)) ?_
    refine DTn (i := 7) tx13_10 (bt 29 255) s7 rfl rfl rfl d33 rfl (fun w hs => run_load Ty.ag3 rfl ((hs).cell ((flat_get blc_len hb1 (j := 0) (by decide)).trans rfl))) ?_
    refine DPn (i := 8) tx13_10 (bt 29 511) rfl rfl rfl d33 rfl (fun w => run_neq rfl rfl) ?_
    refine DP (i := 9) tx13_10 (bt 29 1023) rfl rfl rfl rfl (fun w => run_pickT rfl d33 rfl) ?_
    refine DP (i := 10) tx13_10 (bt 29 2047) rfl rfl rfl rfl (fun w => run_move rfl) ?_
    refine dcase (p := ¬ b1.first = 1) (fun g41 d41 => ?_) (fun g41 d41 => ?_)
    ·
     refine DO (i := 11) tx13_10 (bt 29 4095) rfl rfl rfl d41 rfl ?_
     refine DO (i := 12) tx13_10 (bt 29 8191) rfl rfl rfl d41 rfl ?_
     refine DO (i := 13) tx13_10 (bt 29 16383) rfl rfl rfl d41 rfl ?_
     refine DU (i := 14) tx13_10 (bt 29 32767) rfl rfl rfl rfl ?_
     refine DU (i := 15) tx13_10 (bt 29 65535) rfl rfl rfl rfl ?_
     refine DU (i := 16) tx13_10 (bt 29 131071) rfl rfl rfl rfl ?_
     refine DU (i := 17) tx13_10 (bt 29 262143) rfl rfl rfl rfl ?_
     refine DU (i := 18) tx13_10 (bt 29 524287) rfl rfl rfl rfl ?_
     refine DU (i := 19) tx13_10 (bt 29 1048575) rfl rfl rfl rfl ?_
     refine DU (i := 20) tx13_10 (bt 29 2097151) rfl rfl rfl rfl ?_
     refine DU (i := 21) tx13_10 (bt 29 4194303) rfl rfl rfl rfl ?_
     refine DU (i := 22) tx13_10 (bt 29 8388607) rfl rfl rfl rfl ?_
     refine DU (i := 23) tx13_10 (bt 29 16777215) rfl rfl rfl rfl ?_
     refine DU (i := 24) tx13_10 (bt 29 33554431) rfl rfl rfl rfl ?_
     refine DU (i := 25) tx13_10 (bt 29 67108863) rfl rfl rfl rfl ?_
     refine DU (i := 26) tx13_10 (bt 29 134217727) rfl rfl rfl rfl ?_
     refine DO (i := 27) tx13_10 (bt 29 268435455) rfl rfl rfl d41 rfl ?_
     refine DP (i := 28) tx13_10 (bt 29 536870911) rfl rfl rfl rfl (fun w => run_pickT rfl d41 rfl) ?_
     refine WD.done tx13_10 (by kernel_rfl) ?_
     refine NX.go ?_
     refine WP.condT rfl rfl ?_
     refine WP.seq (WP.region rfl ?_)
     refine WO.asg rfl rfl ?_
     refine WO.nil (NX.go (WP.ret (NX.thenRet (NX.blkRet (NX.thenRet (NX.thenRet (NX.blkRet (NX.thenRet ?_))))))))
     refine NX.done (l := [.tmp 2]) rfl rfl ?_
     have h8 : followV bs = ordGo 1 [] bs := by unfold followV; rw [if_neg (by simp [chkAll_zero hchk])]
     have hfn : ¬ b1.first = nx := by have := hz0 (by omega); omega
     exact ⟨congrArg (Value.int .i64) (by rw [h8, ← hgo, drop_cons hb1, ordGo, if_pos hfn]), hS6⟩
    ·
     refine DPn (i := 11) tx13_10 (bt 29 4095) rfl rfl rfl d41 rfl (fun w => run_move rfl) ?_
     refine DPn (i := 12) tx13_10 (bt 29 8191) rfl rfl rfl d41 rfl (fun w => run_gtr rfl rfl) ?_
     refine DPn (i := 13) tx13_10 (bt 29 16383) rfl rfl rfl d41 rfl (fun w => run_move rfl) ?_
     refine dcase (p := 0 < (i : Int)) (fun g44 d44 => ?_) (fun g44 d44 => ?_)
     ·
      exact absurd g44 (by omega)
     ·
      refine DO (i := 14) tx13_10 (bt 29 32767) rfl rfl rfl d44 rfl ?_
      refine DO (i := 15) tx13_10 (bt 29 65535) rfl rfl rfl d44 rfl ?_
      refine DO (i := 16) tx13_10 (bt 29 131071) rfl rfl rfl d44 rfl ?_
      refine DO (i := 17) tx13_10 (bt 29 262143) rfl rfl rfl d44 rfl ?_
      refine DO (i := 18) tx13_10 (bt 29 524287) rfl rfl rfl d44 rfl ?_
      refine DO (i := 19) tx13_10 (bt 29 1048575) rfl rfl rfl d44 rfl ?_
      refine DO (i := 20) tx13_10 (bt 29 2097151) rfl rfl rfl d44 rfl ?_
      refine DO (i := 21) tx13_10 (bt 29 4194303) rfl rfl rfl d44 rfl ?_
      refine DO (i := 22) tx13_10 (bt 29 8388607) rfl rfl rfl d44 rfl ?_
      refine DO (i := 23) tx13_10 (bt 29 16777215) rfl rfl rfl d44 rfl ?_
      refine DO (i := 24) tx13_10 (bt 29 33554431) rfl rfl rfl d44 rfl ?_
      refine DO (i := 25) tx13_10 (bt 29 67108863) rfl rfl rfl d44 rfl ?_
      refine DO (i := 26) tx13_10 (bt 29 134217727) rfl rfl rfl d44 rfl ?_
      refine DPn (i := 27) tx13_10 (bt 29 268435455) rfl rfl rfl d41 rfl (fun w => run_pickF rfl d44 rfl) ?_
      refine DP (i := 28) tx13_10 (bt 29 536870911) rfl rfl rfl rfl (fun w => run_pickF rfl d41 rfl) ?_
      refine WD.done tx13_10 (by kernel_rfl) ?_
      refine NX.go ?_
      refine WP.condF rfl rfl ?_
      refine WP.skip (NX.go (WP.seq ?_))
      have hfn : b1.first = nx := by have := hz0 (by omega); omega
      have hzb := hbz b1 (List.mem_of_getElem? hb1)
      have hnr := hzb.nr
      refine WP.region rfl ?_
      refine WO.mv rfl rfl ?_
      refine WO.mv rfl rfl ?_
      refine WO.V (run_sliceTo (j := i) Tryz.underlying22 Ty.sz51 rfl ⟨_, rfl⟩ (by omega)) ?_
      refine WO.as (d := 62) (v := Value.slice a ((bs.take i).length) cap) rfl (by rw [List.length_take, Nat.min_eq_left hi]) ?_
      refine WO.call rfl rfl Ty.hd28 rfl (rlasts_spec (cs := bs) (rd_takeB hX hi) (fun b hb => List.mem_of_mem_take hb) (fun b hb => hbz b (List.mem_of_mem_take hb)) (by rw [List.length_take]; omega) (by have h9 := (tots (fun b hb => hchk b (List.mem_of_mem_take hb)) (fun b hb => hwg b (List.mem_of_mem_take (i := i) hb))).1; rw [List.length_take] at h9; omega) hS6) (fun v9 w8 pv9 => ?_)
      obtain ⟨ra, rc, A, rfl, hA, hAn, hAl, hS8⟩ := pv9
      clear hS6
      refine WO.asg rfl rfl ?_
      refine WO.nil (NX.go (WP.seq ?_))
      have hAs : SrtR (A.map MRow.p) := by rw [hA]; exact lastsA_srt List.Pairwise.nil
      have hS10 := blA_get (List.mem_of_getElem? hb1) (hS8.permT [3] (L' := allA blA bs :: own ra A.length rc 99 3 (A.flatMap mrc) :: allA mrA A :: X :: L) rfl)
      clear hS8
      have hS11 : St B ((rsA b1.rs) :: allA mrA b1.rs.l :: allA blA bs :: own ra A.length rc 99 3 (A.flatMap mrc) :: allA mrA A :: X :: L) w8 := (hS10.mask [true, true, false, false] (L' := (rsA b1.rs) :: allA mrA b1.rs.l :: allA blA bs :: own ra A.length rc 99 3 (A.flatMap mrc) :: allA mrA A :: X :: L) rfl)
      clear hS10
      refine WP.region rfl ?_
      refine WO.asg rfl rfl ?_
      refine WO.nil (NX.go (WP.block ?_))
      refine WP.loop (α := Nat) (fun x => match x with | k => [(0, Value.slice a bs.length cap), (5, Value.int .i64 (i : Int)), (6, Value.slice ra A.length rc), (7, Value.int .i64 (k : Int))]) (fun x w => match x with | k => (k ≤ b1.rs.l.length ∧ (b1.rs.l.drop k).any (fun r => clashP (A.map MRow.p) r.p) = b1.rs.l.any (fun r => clashP (A.map MRow.p) r.p)) ∧ St B (own ra A.length rc 99 3 (A.flatMap mrc) :: allA mrA A :: (rsA b1.rs) :: allA mrA b1.rs.l :: X :: allA blA bs :: L) w) (fun x => match x with | k => b1.rs.l.length - k) 0 ⟨⟨Nat.zero_le _, rfl⟩, (hS11.permT [3, 3, 0, 0, 1] (L' := own ra A.length rc 99 3 (A.flatMap mrc) :: allA mrA A :: (rsA b1.rs) :: allA mrA b1.rs.l :: X :: allA blA bs :: L) rfl)⟩ (Sub.cons rfl (Sub.cons rfl (Sub.cons rfl (Sub.consE rfl (by first | rfl | first | rfl | (congr 1; omega) | (simp; done) | (simp; omega)) (Sub.nil _))))) ?_
      rintro k w12 ⟨⟨hk, hcl⟩, hS12⟩
      clear hS11
      refine WP.seq (WP.seq ?_)
      have hsa : a.isSome = true := rd_isSome ((hX (hS12.focus 4 rfl))) (by omega)
      refine WP.region rfl ?_
      refine WO.mv rfl rfl ?_
      refine WO.mv rfl rfl ?_
      refine WO.mv rfl rfl ?_
      refine WO.V (run_indexAddr (q := adr a (i * 4)) Tryz.underlying22 Ty.sz51 rfl rfl (by omega) (by omega) ((hX (hS12.focus 4 rfl)).2.1 (by omega)) rfl) ?_
      refine WO.V (run_fa 2 (adr a (i * 4 + 2)) rfl (adr_add _ (by assumption) _ _)) ?_
      refine WO.V (run_load Ty.ag49 rfl ((hX (hS12.focus 4 rfl)).cell ((flat_get blc_len hb1 (j := 2) (by decide)).trans rfl))) ?_
      refine WO.V (run_len rfl Tryz.underlying49 rfl) ?_
      refine WO.V (run_lss rfl rfl) ?_
      refine WO.nil (NX.go ?_)
      refine WP.condP rfl (fun g71 => ?_) (fun g71 => ?_)
      ·
       refine WP.skip (NX.go (WP.seq (WP.block (WP.seq ?_))))
       obtain ⟨u, hu⟩ : ∃ qq, b1.rs.l[k]? = some qq := ⟨_, List.getElem?_eq_getElem (by omega)⟩
       have hzu := hzb.r u (List.mem_of_getElem? hu)
       refine WP.region rfl ?_
       refine WO.mv rfl rfl ?_
       refine WO.mv rfl rfl ?_
       refine WO.V (run_indexAddr (q := adr a (i * 4)) Tryz.underlying22 Ty.sz51 rfl rfl (by omega) (by omega) ((hX (hS12.focus 4 rfl)).2.1 (by omega)) rfl) ?_
       refine WO.V (run_fa 2 (adr a (i * 4 + 2)) rfl (adr_add _ (by assumption) _ _)) ?_
       refine WO.V (run_load Ty.ag49 rfl ((hX (hS12.focus 4 rfl)).cell ((flat_get blc_len hb1 (j := 2) (by decide)).trans rfl))) ?_
       refine WO.mv rfl rfl ?_
       refine WO.V (run_indexAddr (q := adr b1.rs.a (k * 3)) Tryz.underlying49 Ty.sz99 rfl rfl (by omega) (by omega) ((rdH_rd (hS12.focus 2 rfl)).2.1 (by omega)) rfl) ?_
       refine WO.V (run_loadAgg (vs := (mrc u)) Ty.ag99 Ty.sz99 rfl ((rdH_rd (hS12.focus 2 rfl)).cells (by rw [flat_len mrc_len]; omega) (flat_part mrc_len hu)).1 ((rdH_rd (hS12.focus 2 rfl)).cells (by rw [flat_len mrc_len]; omega) (flat_part mrc_len hu)).2) ?_
       refine WO.alloc (l := [Value.slice none 0 0, Value.int .i64 0, Value.slice none 0 0]) hS12 Ty.zr99 rfl rfl (fun g15 w13 lg15 hS13 => ?_)
       clear hS12
       refine WO.store (l' := (mrc u)) 0 hS13 rfl Ty.sz99 rfl rfl rfl rfl rfl (Nat.le_of_ble_eq_true rfl) rfl (fun w16 (hS16 : St B (cel g15 (mrc u) 99 :: own ra A.length rc 99 3 (A.flatMap mrc) :: allA mrA A :: (rsA b1.rs) :: allA mrA b1.rs.l :: X :: allA blA bs :: L) w16) => ?_)
       clear hS13
       refine WO.nil (NX.go (WP.seq ?_))
       have hS17 := mrA_get (List.mem_of_getElem? hu) (hS16.permT [4] (L' := allA mrA b1.rs.l :: cel g15 (mrc u) 99 :: own ra A.length rc 99 3 (A.flatMap mrc) :: allA mrA A :: (rsA b1.rs) :: X :: allA blA bs :: L) rfl)
       clear hS16
       refine WP.region rfl ?_
       refine WO.mv rfl rfl ?_
       refine WO.V (run_fa 0 ⟨g15, 0, none⟩ rfl rfl) ?_
       refine WO.V (run_load Ty.ag65 rfl ((hS17.cel_at 3 rfl 0).trans rfl)) ?_
       have hS18 := hS17.permT [4, 4] (L' := own ra A.length rc 99 3 (A.flatMap mrc) :: allA mrA A :: (labA u.lb) :: (ptsA u.pt) :: allA mrA b1.rs.l :: cel g15 (mrc u) 99 :: (rsA b1.rs) :: X :: allA blA bs :: L) rfl
       clear hS17
       refine WO.call rfl rfl Ty.hd48 rfl (rat_spec (X := own ra A.length rc 99 3 (A.flatMap mrc)) (fun h => h.own_rd.1) rdH_rd (by omega) hAl hzu.1 hS18) (fun v20 w19 pv20 => ?_)
       obtain ⟨rfl, hS19⟩ := pv20
       clear hS18
       refine WO.mv rfl rfl ?_
       refine WO.V (run_extract rfl rfl) ?_
       refine WO.V (run_extract rfl rfl) ?_
       refine WO.asg rfl rfl ?_
       refine WO.asg rfl rfl ?_
       refine WO.nil (NX.go (WP.seq ?_))
       refine WD.start (fun w => Rd w ra A.length 3 (A.flatMap mrc) ∧ Rd w u.lb.a u.lb.l.length 2 (u.lb.l.flatMap prc) ∧ Rd w u.pt.a u.pt.l.length 2 (u.pt.l.flatMap ptc) ∧ (∀ jz, World.cell? w ⟨g15, jz, none⟩ = (mrc u)[jz]?) ∧ Rd w b1.rs.a b1.rs.l.length 3 (b1.rs.l.flatMap mrc) ∧ Rd w a bs.length 4 (bs.flatMap blc)) [] (bt 20 0) Ty.mo rfl (by kernel_rfl) hS19 (fun _ h => ⟨(h.own_rd_i 0 rfl), (rdH_rd (h.focus 2 rfl)), (rdH_rd (h.focus 3 rfl)), h.cel_at 5 rfl, (rdH_rd (h.focus 6 rfl)), (hX (h.focus 7 rfl))⟩) (fun w21 hS21 s22 => ?_)
       clear hS19
       refine DP (i := 0) tx13_18 (bt 20 1) rfl rfl rfl rfl (fun w => run_move rfl) ?_
       refine DP (i := 1) tx13_18 (bt 20 3) rfl rfl rfl rfl (fun w => run_move rfl) ?_
       rcases Bool.eq_false_or_eq_true (hasR A u.lb.l) with g90 | g90
       ·
        obtain ⟨ar, har⟩ := has_some g90
        have halt := (List.getElem?_eq_some_iff.1 har).1
        have hsra : ra.isSome = true := rd_isSome ((hS21.own_rd_i 0 rfl)) (by omega)
        refine DPn (i := 2) tx13_18 (bt 20 7) rfl rfl rfl g90 rfl (fun w => run_fa 2 ⟨g15, 2, none⟩ rfl rfl) ?_
        refine DTn (i := 3) tx13_18 (bt 20 15) s22 rfl rfl rfl g90 rfl (fun w hs => run_load Ty.ag66 rfl ((hs.2.2.2.1 2).trans rfl)) ?_
        refine DPn (i := 4) tx13_18 (bt 20 31) rfl rfl rfl g90 rfl (fun w => run_len rfl Tryz.underlying66 rfl) ?_
        refine DPn (i := 5) tx13_18 (bt 20 63) rfl rfl rfl g90 rfl (fun w => run_gtr rfl rfl) ?_
        refine DP (i := 6) tx13_18 (bt 20 127) rfl rfl rfl rfl (fun w => run_pickT rfl g90 rfl) ?_
        refine DP (i := 7) tx13_18 (bt 20 255) rfl rfl rfl rfl (fun w => run_move rfl) ?_
        refine dcase (p := 0 < ((u.pt.l.length : Nat) : Int)) (fun g96 d96 => ?_) (fun g96 d96 => ?_)
        ·
         obtain ⟨p0, hp0⟩ : ∃ qq, u.pt.l[0]? = some qq := ⟨_, List.getElem?_eq_getElem (by omega)⟩
         have hsp : u.pt.a.isSome = true := rd_isSome ((rdH_rd (hS21.focus 3 rfl))) (by omega)
         refine DPn (i := 8) tx13_18 (bt 20 511) rfl rfl rfl d96 rfl (fun w => run_fa 2 ⟨g15, 2, none⟩ rfl rfl) ?_
         refine DTn (i := 9) tx13_18 (bt 20 1023) s22 rfl rfl rfl d96 rfl (fun w hs => run_load Ty.ag66 rfl ((hs.2.2.2.1 2).trans rfl)) ?_
         refine DTn (i := 10) tx13_18 (bt 20 2047) s22 rfl rfl rfl d96 rfl (fun w hs => run_indexAddr (q := adr u.pt.a (0 * 2)) Tryz.underlying66 Ty.sz103 rfl rfl (by omega) (by omega) ((hs.2.2.1).2.1 (by omega)) rfl) ?_
         refine DPn (i := 11) tx13_18 (bt 20 4095) rfl rfl rfl d96 rfl (fun w => run_fa 0 (adr u.pt.a (0 * 2 + 0)) rfl (adr_add _ (by assumption) _ _)) ?_
         refine DTn (i := 12) tx13_18 (bt 20 8191) s22 rfl rfl rfl d96 rfl (fun w hs => run_load Ty.ag2 rfl ((hs.2.2.1).cell ((flat_get ptc_len hp0 (j := 0) (by decide)).trans rfl))) ?_
         refine DPn (i := 13) tx13_18 (bt 20 16383) rfl rfl rfl d96 rfl (fun w => run_move rfl) ?_
         refine DPn (i := 14) tx13_18 (bt 20 32767) rfl rfl rfl d96 rfl (fun w => run_move rfl) ?_
         refine DTn (i := 15) tx13_18 (bt 20 65535) s22 rfl rfl rfl d96 rfl (fun w hs => run_indexAddr (q := adr ra ((atR A u.lb.l) * 3)) Tryz.underlying49 Ty.sz99 rfl rfl (by omega) (by omega) ((hs.1).2.1 (by omega)) rfl) ?_
         refine DPn (i := 16) tx13_18 (bt 20 131071) rfl rfl rfl d96 rfl (fun w => run_fa 1 (adr ra ((atR A u.lb.l) * 3 + 1)) rfl (adr_add _ (by assumption) _ _)) ?_
         refine DTn (i := 17) tx13_18 (bt 20 262143) s22 rfl rfl rfl d96 rfl (fun w hs => run_load Ty.ag2 rfl ((hs.1).cell ((flat_get mrc_len har (j := 1) (by decide)).trans rfl))) ?_
         refine DPn (i := 18) tx13_18 (bt 20 524287) rfl rfl rfl d96 rfl (fun w => run_leq rfl rfl) ?_
         refine DP (i := 19) tx13_18 (bt 20 1048575) rfl rfl rfl rfl (fun w => run_pickT rfl d96 rfl) ?_
         refine WD.done tx13_18 (by kernel_rfl) ?_
         refine NX.go ?_
         refine WP.condP rfl (fun g108 => ?_) (fun g108 => ?_)
         ·
          refine WP.seq (WP.region rfl ?_)
          refine WO.asg rfl rfl ?_
          refine WO.nil (NX.go (WP.ret (NX.blkRet (NX.thenRet (NX.thenRet (NX.blkRet (NX.blkRet (NX.thenRet (NX.thenRet (NX.blkRet (NX.thenRet ?_)))))))))))
          refine NX.done (l := [.tmp 2]) rfl rfl ?_
          have h8 : followV bs = ordGo 1 [] bs := by unfold followV; rw [if_neg (by simp [chkAll_zero hchk])]
          have h7 : b1.rs.l.any (fun r => clashP (A.map MRow.p) r.p) = true := by rw [← hcl, drop_cons hu, List.any_cons, clash_at hAs g90 har hp0, decide_eq_true g108]; rfl
          exact ⟨congrArg (Value.int .i64) (by rw [h8, ← hgo, drop_cons hb1, ordGo, if_neg (by simp [hfn]), ← hA, if_pos h7]), hS21.drop.drop.drop.drop.drop.drop.drop⟩
         ·
          refine WP.skip (NX.blk (NX.go ?_))
          have hck1 : clashP (A.map MRow.p) u.p = false := by rw [clash_at hAs g90 har hp0]; exact decide_eq_false g108
          refine WP.region rfl ?_
          refine WO.mv rfl rfl ?_
          refine WO.V (run_add rfl rfl (IntWalk.i64_in _ (by omega))) ?_
          refine WO.asg rfl rfl ?_
          refine WO.nil ?_
          exact NX.again (k + 1) ⟨⟨by omega, by rw [← hcl, drop_cons hu, List.any_cons, hck1, Bool.false_or]⟩, ((hS21.mask [true, true, false, false, true, false] (L' := own ra A.length rc 99 3 (A.flatMap mrc) :: allA mrA A :: allA mrA b1.rs.l :: (rsA b1.rs) :: X :: allA blA bs :: L) rfl).permT [0, 0, 1] (L' := own ra A.length rc 99 3 (A.flatMap mrc) :: allA mrA A :: (rsA b1.rs) :: allA mrA b1.rs.l :: X :: allA blA bs :: L) rfl)⟩ (by show b1.rs.l.length - (k + 1) < b1.rs.l.length - k; omega) (Sub.cons rfl (Sub.cons rfl (Sub.cons rfl (Sub.consE rfl (by congr 1) (Sub.nil _)))))
        ·
         refine DO (i := 8) tx13_18 (bt 20 511) rfl rfl rfl d96 rfl ?_
         refine DO (i := 9) tx13_18 (bt 20 1023) rfl rfl rfl d96 rfl ?_
         refine DO (i := 10) tx13_18 (bt 20 2047) rfl rfl rfl d96 rfl ?_
         refine DO (i := 11) tx13_18 (bt 20 4095) rfl rfl rfl d96 rfl ?_
         refine DO (i := 12) tx13_18 (bt 20 8191) rfl rfl rfl d96 rfl ?_
         refine DO (i := 13) tx13_18 (bt 20 16383) rfl rfl rfl d96 rfl ?_
         refine DO (i := 14) tx13_18 (bt 20 32767) rfl rfl rfl d96 rfl ?_
         refine DO (i := 15) tx13_18 (bt 20 65535) rfl rfl rfl d96 rfl ?_
         refine DO (i := 16) tx13_18 (bt 20 131071) rfl rfl rfl d96 rfl ?_
         refine DO (i := 17) tx13_18 (bt 20 262143) rfl rfl rfl d96 rfl ?_
         refine DO (i := 18) tx13_18 (bt 20 524287) rfl rfl rfl d96 rfl ?_
         refine DP (i := 19) tx13_18 (bt 20 1048575) rfl rfl rfl rfl (fun w => run_pickF rfl d96 rfl) ?_
         refine WD.done tx13_18 (by kernel_rfl) ?_
         refine NX.go ?_
         refine WP.condF rfl rfl ?_
         refine WP.skip (NX.blk (NX.go ?_))
         have hck1 : clashP (A.map MRow.p) u.p = false := clash_nil (List.length_eq_zero_iff.1 (by omega))
         refine WP.region rfl ?_
         refine WO.mv rfl rfl ?_
         refine WO.V (run_add rfl rfl (IntWalk.i64_in _ (by omega))) ?_
         refine WO.asg rfl rfl ?_
         refine WO.nil ?_
         exact NX.again (k + 1) ⟨⟨by omega, by rw [← hcl, drop_cons hu, List.any_cons, hck1, Bool.false_or]⟩, ((hS21.mask [true, true, false, false, true, false] (L' := own ra A.length rc 99 3 (A.flatMap mrc) :: allA mrA A :: allA mrA b1.rs.l :: (rsA b1.rs) :: X :: allA blA bs :: L) rfl).permT [0, 0, 1] (L' := own ra A.length rc 99 3 (A.flatMap mrc) :: allA mrA A :: (rsA b1.rs) :: allA mrA b1.rs.l :: X :: allA blA bs :: L) rfl)⟩ (by show b1.rs.l.length - (k + 1) < b1.rs.l.length - k; omega) (Sub.cons rfl (Sub.cons rfl (Sub.cons rfl (Sub.consE rfl (by congr 1) (Sub.nil _)))))
       ·
        refine DO (i := 2) tx13_18 (bt 20 7) rfl rfl rfl g90 rfl ?_
        refine DO (i := 3) tx13_18 (bt 20 15) rfl rfl rfl g90 rfl ?_
        refine DO (i := 4) tx13_18 (bt 20 31) rfl rfl rfl g90 rfl ?_
        refine DO (i := 5) tx13_18 (bt 20 63) rfl rfl rfl g90 rfl ?_
        refine DP (i := 6) tx13_18 (bt 20 127) rfl rfl rfl rfl (fun w => run_pickF rfl g90 rfl) ?_
        refine DP (i := 7) tx13_18 (bt 20 255) rfl rfl rfl rfl (fun w => run_move rfl) ?_
        refine DO (i := 8) tx13_18 (bt 20 511) rfl rfl rfl rfl rfl ?_
        refine DO (i := 9) tx13_18 (bt 20 1023) rfl rfl rfl rfl rfl ?_
        refine DO (i := 10) tx13_18 (bt 20 2047) rfl rfl rfl rfl rfl ?_
        refine DO (i := 11) tx13_18 (bt 20 4095) rfl rfl rfl rfl rfl ?_
        refine DO (i := 12) tx13_18 (bt 20 8191) rfl rfl rfl rfl rfl ?_
        refine DO (i := 13) tx13_18 (bt 20 16383) rfl rfl rfl rfl rfl ?_
        refine DO (i := 14) tx13_18 (bt 20 32767) rfl rfl rfl rfl rfl ?_
        refine DO (i := 15) tx13_18 (bt 20 65535) rfl rfl rfl rfl rfl ?_
        refine DO (i := 16) tx13_18 (bt 20 131071) rfl rfl rfl rfl rfl ?_
        refine DO (i := 17) tx13_18 (bt 20 262143) rfl rfl rfl rfl rfl ?_
        refine DO (i := 18) tx13_18 (bt 20 524287) rfl rfl rfl rfl rfl ?_
        refine DP (i := 19) tx13_18 (bt 20 1048575) rfl rfl rfl rfl (fun w => run_pickF rfl rfl rfl) ?_
        refine WD.done tx13_18 (by kernel_rfl) ?_
        refine NX.go ?_
        refine WP.condF rfl rfl ?_
        refine WP.skip (NX.blk (NX.go ?_))
        have hck1 : clashP (A.map MRow.p) u.p = false := clash_no hAs (by simpa using g90)
        refine WP.region rfl ?_
        refine WO.mv rfl rfl ?_
        refine WO.V (run_add rfl rfl (IntWalk.i64_in _ (by omega))) ?_
        refine WO.asg rfl rfl ?_
        refine WO.nil ?_
        exact NX.again (k + 1) ⟨⟨by omega, by rw [← hcl, drop_cons hu, List.any_cons, hck1, Bool.false_or]⟩, ((hS21.mask [true, true, false, false, true, false] (L' := own ra A.length rc 99 3 (A.flatMap mrc) :: allA mrA A :: allA mrA b1.rs.l :: (rsA b1.rs) :: X :: allA blA bs :: L) rfl).permT [0, 0, 1] (L' := own ra A.length rc 99 3 (A.flatMap mrc) :: allA mrA A :: (rsA b1.rs) :: allA mrA b1.rs.l :: X :: allA blA bs :: L) rfl)⟩ (by show b1.rs.l.length - (k + 1) < b1.rs.l.length - k; omega) (Sub.cons rfl (Sub.cons rfl (Sub.cons rfl (Sub.consE rfl (by congr 1) (Sub.nil _)))))
      ·
       refine WP.exit (NX.thenExit (NX.thenExit ?_))
       refine NX.blkExit ?_
       refine NX.blk (NX.go ?_)
       have hcl0 : b1.rs.l.any (fun r => clashP (A.map MRow.p) r.p) = false := by rw [← hcl, List.drop_of_length_le (by omega)]; rfl
       refine WP.region rfl ?_
       refine WO.mv rfl rfl ?_
       refine WO.V (run_add rfl rfl (IntWalk.i64_in _ (by omega))) ?_
       refine WO.asg rfl rfl ?_
       refine WO.nil ?_
       exact NX.again (i + 1, b1.to + 1) ⟨⟨by omega, fun h => by omega, fun q _ h => by rw [Nat.add_sub_cancel, hb1] at h; cases h; rfl, by rw [← hgo, take_snocM hb1, List.map_append, List.map_cons, List.map_nil, lastsA_snoc, drop_cons hb1, ordGo, if_neg (by simp [hfn]), if_neg (by rw [← hA, hcl0]; decide)]; rfl⟩, hS12.drop.drop.drop.drop⟩ (by show bs.length - (i + 1) < bs.length - i; omega) (Sub.cons rfl (Sub.consE rfl (by congr 1) (Sub.nil _)))
   ·
    refine DO (i := 3) tx13_10 (bt 29 15) rfl rfl rfl d33 rfl ?_
    refine DO (i := 4) tx13_10 (bt 29 31) rfl rfl rfl d33 rfl ?_
    refine DO (i := 5) tx13_10 (bt 29 63) rfl rfl rfl d33 rfl ?_
    refine DO (i := 6) tx13_10 (bt 29 127) rfl rfl rfl d33 rfl ?_
    refine DO (i := 7) tx13_10 (bt 29 255) rfl rfl rfl d33 rfl ?_
    refine DO (i := 8) tx13_10 (bt 29 511) rfl rfl rfl d33 rfl ?_
    refine DP (i := 9) tx13_10 (bt 29 1023) rfl rfl rfl rfl (fun w => run_pickF rfl d33 rfl) ?_
    refine DP (i := 10) tx13_10 (bt 29 2047) rfl rfl rfl rfl (fun w => run_move rfl) ?_
    refine DPn (i := 11) tx13_10 (bt 29 4095) rfl rfl rfl rfl rfl (fun w => run_move rfl) ?_
    refine DPn (i := 12) tx13_10 (bt 29 8191) rfl rfl rfl rfl rfl (fun w => run_gtr rfl rfl) ?_
    refine DPn (i := 13) tx13_10 (bt 29 16383) rfl rfl rfl rfl rfl (fun w => run_move rfl) ?_
    refine dcase (p := 0 < (i : Int)) (fun g44 d44 => ?_) (fun g44 d44 => ?_)
    ·
     obtain ⟨qb, hq1⟩ := hqe (by omega)
     have hqt := checkB_to (hchk qb (List.mem_of_getElem? hq1))
     refine DPn (i := 14) tx13_10 (bt 29 32767) rfl rfl rfl d44 rfl (fun w => run_move rfl) ?_
     refine DPn (i := 15) tx13_10 (bt 29 65535) rfl rfl rfl d44 rfl (fun w => run_move rfl) ?_
     refine DTn (i := 16) tx13_10 (bt 29 131071) s7 rfl rfl rfl d44 rfl (fun w hs => run_indexAddr (q := adr a (i * 4)) Tryz.underlying22 Ty.sz51 rfl rfl (by omega) (by omega) ((hs).2.1 (by omega)) rfl) ?_
     refine DPn (i := 17) tx13_10 (bt 29 262143) rfl rfl rfl d44 rfl (fun w => run_fa 0 (adr a (i * 4 + 0)) rfl (adr_add _ (by assumption) _ _)) ?_
     refine DTn (i := 18) tx13_10 (bt 29 524287) s7 rfl rfl rfl d44 rfl (fun w hs => run_load Ty.ag3 rfl ((hs).cell ((flat_get blc_len hb1 (j := 0) (by decide)).trans rfl))) ?_
     refine DPn (i := 19) tx13_10 (bt 29 1048575) rfl rfl rfl d44 rfl (fun w => run_move rfl) ?_
     refine DPn (i := 20) tx13_10 (bt 29 2097151) rfl rfl rfl d44 rfl (fun w => run_move rfl) ?_
     refine DPn (i := 21) tx13_10 (bt 29 4194303) rfl rfl rfl d44 rfl (fun w => run_sub rfl rfl (IntWalk.i64_in _ (by omega))) ?_
     refine DTn (i := 22) tx13_10 (bt 29 8388607) s7 rfl rfl rfl d44 rfl (fun w hs => run_indexAddr (q := adr a ((i - 1) * 4)) Tryz.underlying22 Ty.sz51 rfl rfl (by omega) (by omega) ((hs).2.1 (by omega)) (by rw [show ((i : Int) - 1).toNat = i - 1 by omega])) ?_
     refine DPn (i := 23) tx13_10 (bt 29 16777215) rfl rfl rfl d44 rfl (fun w => run_fa 1 (adr a ((i - 1) * 4 + 1)) rfl (adr_add _ (by assumption) _ _)) ?_
     refine DTn (i := 24) tx13_10 (bt 29 33554431) s7 rfl rfl rfl d44 rfl (fun w hs => run_load Ty.ag3 rfl ((hs).cell ((flat_get blc_len hq1 (j := 1) (by decide)).trans rfl))) ?_
     refine DPn (i := 25) tx13_10 (bt 29 67108863) rfl rfl rfl d44 rfl (fun w => run_add rfl rfl (IntWalk.i64_in _ (by omega))) ?_
     refine DPn (i := 26) tx13_10 (bt 29 134217727) rfl rfl rfl d44 rfl (fun w => run_neq rfl rfl) ?_
     refine DPn (i := 27) tx13_10 (bt 29 268435455) rfl rfl rfl rfl rfl (fun w => run_pickT rfl d44 rfl) ?_
     refine DP (i := 28) tx13_10 (bt 29 536870911) rfl rfl rfl rfl (fun w => run_pickF rfl rfl rfl) ?_
     refine WD.done tx13_10 (by kernel_rfl) ?_
     refine NX.go ?_
     refine WP.condP rfl (fun g59 => ?_) (fun g59 => ?_)
     ·
      refine WP.seq (WP.region rfl ?_)
      refine WO.asg rfl rfl ?_
      refine WO.nil (NX.go (WP.ret (NX.thenRet (NX.blkRet (NX.thenRet (NX.thenRet (NX.blkRet (NX.thenRet ?_))))))))
      refine NX.done (l := [.tmp 2]) rfl rfl ?_
      have h8 : followV bs = ordGo 1 [] bs := by unfold followV; rw [if_neg (by simp [chkAll_zero hchk])]
      have hfn : ¬ b1.first = nx := by have := hqn qb (by omega) hq1; omega
      exact ⟨congrArg (Value.int .i64) (by rw [h8, ← hgo, drop_cons hb1, ordGo, if_pos hfn]), hS6⟩
     ·
      refine WP.skip (NX.go (WP.seq ?_))
      have hfn : b1.first = nx := by have := hqn qb (by omega) hq1; omega
      have hzb := hbz b1 (List.mem_of_getElem? hb1)
      have hnr := hzb.nr
      refine WP.region rfl ?_
      refine WO.mv rfl rfl ?_
      refine WO.mv rfl rfl ?_
      refine WO.V (run_sliceTo (j := i) Tryz.underlying22 Ty.sz51 rfl ⟨_, rfl⟩ (by omega)) ?_
      refine WO.as (d := 62) (v := Value.slice a ((bs.take i).length) cap) rfl (by rw [List.length_take, Nat.min_eq_left hi]) ?_
      refine WO.call rfl rfl Ty.hd28 rfl (rlasts_spec (cs := bs) (rd_takeB hX hi) (fun b hb => List.mem_of_mem_take hb) (fun b hb => hbz b (List.mem_of_mem_take hb)) (by rw [List.length_take]; omega) (by have h9 := (tots (fun b hb => hchk b (List.mem_of_mem_take hb)) (fun b hb => hwg b (List.mem_of_mem_take (i := i) hb))).1; rw [List.length_take] at h9; omega) hS6) (fun v24 w23 pv24 => ?_)
      obtain ⟨ra, rc, A, rfl, hA, hAn, hAl, hS23⟩ := pv24
      clear hS6
      refine WO.asg rfl rfl ?_
      refine WO.nil (NX.go (WP.seq ?_))
      have hAs : SrtR (A.map MRow.p) := by rw [hA]; exact lastsA_srt List.Pairwise.nil
      have hS25 := blA_get (List.mem_of_getElem? hb1) (hS23.permT [3] (L' := allA blA bs :: own ra A.length rc 99 3 (A.flatMap mrc) :: allA mrA A :: X :: L) rfl)
      clear hS23
      have hS26 : St B ((rsA b1.rs) :: allA mrA b1.rs.l :: allA blA bs :: own ra A.length rc 99 3 (A.flatMap mrc) :: allA mrA A :: X :: L) w23 := (hS25.mask [true, true, false, false] (L' := (rsA b1.rs) :: allA mrA b1.rs.l :: allA blA bs :: own ra A.length rc 99 3 (A.flatMap mrc) :: allA mrA A :: X :: L) rfl)
      clear hS25
      refine WP.region rfl ?_
      refine WO.asg rfl rfl ?_
      refine WO.nil (NX.go (WP.block ?_))
      refine WP.loop (α := Nat) (fun x => match x with | k => [(0, Value.slice a bs.length cap), (5, Value.int .i64 (i : Int)), (6, Value.slice ra A.length rc), (7, Value.int .i64 (k : Int))]) (fun x w => match x with | k => (k ≤ b1.rs.l.length ∧ (b1.rs.l.drop k).any (fun r => clashP (A.map MRow.p) r.p) = b1.rs.l.any (fun r => clashP (A.map MRow.p) r.p)) ∧ St B (own ra A.length rc 99 3 (A.flatMap mrc) :: allA mrA A :: (rsA b1.rs) :: allA mrA b1.rs.l :: X :: allA blA bs :: L) w) (fun x => match x with | k => b1.rs.l.length - k) 0 ⟨⟨Nat.zero_le _, rfl⟩, (hS26.permT [3, 3, 0, 0, 1] (L' := own ra A.length rc 99 3 (A.flatMap mrc) :: allA mrA A :: (rsA b1.rs) :: allA mrA b1.rs.l :: X :: allA blA bs :: L) rfl)⟩ (Sub.cons rfl (Sub.cons rfl (Sub.cons rfl (Sub.consE rfl (by first | rfl | first | rfl | (congr 1; omega) | (simp; done) | (simp; omega)) (Sub.nil _))))) ?_
      rintro k w27 ⟨⟨hk, hcl⟩, hS27⟩
      clear hS26
      refine WP.seq (WP.seq ?_)
      have hsa : a.isSome = true := rd_isSome ((hX (hS27.focus 4 rfl))) (by omega)
      refine WP.region rfl ?_
      refine WO.mv rfl rfl ?_
      refine WO.mv rfl rfl ?_
      refine WO.mv rfl rfl ?_
      refine WO.V (run_indexAddr (q := adr a (i * 4)) Tryz.underlying22 Ty.sz51 rfl rfl (by omega) (by omega) ((hX (hS27.focus 4 rfl)).2.1 (by omega)) rfl) ?_
      refine WO.V (run_fa 2 (adr a (i * 4 + 2)) rfl (adr_add _ (by assumption) _ _)) ?_
      refine WO.V (run_load Ty.ag49 rfl ((hX (hS27.focus 4 rfl)).cell ((flat_get blc_len hb1 (j := 2) (by decide)).trans rfl))) ?_
      refine WO.V (run_len rfl Tryz.underlying49 rfl) ?_
      refine WO.V (run_lss rfl rfl) ?_
      refine WO.nil (NX.go ?_)
      refine WP.condP rfl (fun g71 => ?_) (fun g71 => ?_)
      ·
       refine WP.skip (NX.go (WP.seq (WP.block (WP.seq ?_))))
       obtain ⟨u, hu⟩ : ∃ qq, b1.rs.l[k]? = some qq := ⟨_, List.getElem?_eq_getElem (by omega)⟩
       have hzu := hzb.r u (List.mem_of_getElem? hu)
       refine WP.region rfl ?_
       refine WO.mv rfl rfl ?_
       refine WO.mv rfl rfl ?_
       refine WO.V (run_indexAddr (q := adr a (i * 4)) Tryz.underlying22 Ty.sz51 rfl rfl (by omega) (by omega) ((hX (hS27.focus 4 rfl)).2.1 (by omega)) rfl) ?_
       refine WO.V (run_fa 2 (adr a (i * 4 + 2)) rfl (adr_add _ (by assumption) _ _)) ?_
       refine WO.V (run_load Ty.ag49 rfl ((hX (hS27.focus 4 rfl)).cell ((flat_get blc_len hb1 (j := 2) (by decide)).trans rfl))) ?_
       refine WO.mv rfl rfl ?_
       refine WO.V (run_indexAddr (q := adr b1.rs.a (k * 3)) Tryz.underlying49 Ty.sz99 rfl rfl (by omega) (by omega) ((rdH_rd (hS27.focus 2 rfl)).2.1 (by omega)) rfl) ?_
       refine WO.V (run_loadAgg (vs := (mrc u)) Ty.ag99 Ty.sz99 rfl ((rdH_rd (hS27.focus 2 rfl)).cells (by rw [flat_len mrc_len]; omega) (flat_part mrc_len hu)).1 ((rdH_rd (hS27.focus 2 rfl)).cells (by rw [flat_len mrc_len]; omega) (flat_part mrc_len hu)).2) ?_
       refine WO.alloc (l := [Value.slice none 0 0, Value.int .i64 0, Value.slice none 0 0]) hS27 Ty.zr99 rfl rfl (fun g29 w28 lg29 hS28 => ?_)
       clear hS27
       refine WO.store (l' := (mrc u)) 0 hS28 rfl Ty.sz99 rfl rfl rfl rfl rfl (Nat.le_of_ble_eq_true rfl) rfl (fun w30 (hS30 : St B (cel g29 (mrc u) 99 :: own ra A.length rc 99 3 (A.flatMap mrc) :: allA mrA A :: (rsA b1.rs) :: allA mrA b1.rs.l :: X :: allA blA bs :: L) w30) => ?_)
       clear hS28
       refine WO.nil (NX.go (WP.seq ?_))
       have hS31 := mrA_get (List.mem_of_getElem? hu) (hS30.permT [4] (L' := allA mrA b1.rs.l :: cel g29 (mrc u) 99 :: own ra A.length rc 99 3 (A.flatMap mrc) :: allA mrA A :: (rsA b1.rs) :: X :: allA blA bs :: L) rfl)
       clear hS30
       refine WP.region rfl ?_
       refine WO.mv rfl rfl ?_
       refine WO.V (run_fa 0 ⟨g29, 0, none⟩ rfl rfl) ?_
       refine WO.V (run_load Ty.ag65 rfl ((hS31.cel_at 3 rfl 0).trans rfl)) ?_
       have hS32 := hS31.permT [4, 4] (L' := own ra A.length rc 99 3 (A.flatMap mrc) :: allA mrA A :: (labA u.lb) :: (ptsA u.pt) :: allA mrA b1.rs.l :: cel g29 (mrc u) 99 :: (rsA b1.rs) :: X :: allA blA bs :: L) rfl
       clear hS31
       refine WO.call rfl rfl Ty.hd48 rfl (rat_spec (X := own ra A.length rc 99 3 (A.flatMap mrc)) (fun h => h.own_rd.1) rdH_rd (by omega) hAl hzu.1 hS32) (fun v34 w33 pv34 => ?_)
       obtain ⟨rfl, hS33⟩ := pv34
       clear hS32
       refine WO.mv rfl rfl ?_
       refine WO.V (run_extract rfl rfl) ?_
       refine WO.V (run_extract rfl rfl) ?_
       refine WO.asg rfl rfl ?_
       refine WO.asg rfl rfl ?_
       refine WO.nil (NX.go (WP.seq ?_))
       refine WD.start (fun w => Rd w ra A.length 3 (A.flatMap mrc) ∧ Rd w u.lb.a u.lb.l.length 2 (u.lb.l.flatMap prc) ∧ Rd w u.pt.a u.pt.l.length 2 (u.pt.l.flatMap ptc) ∧ (∀ jz, World.cell? w ⟨g29, jz, none⟩ = (mrc u)[jz]?) ∧ Rd w b1.rs.a b1.rs.l.length 3 (b1.rs.l.flatMap mrc) ∧ Rd w a bs.length 4 (bs.flatMap blc)) [] (bt 20 0) Ty.mo rfl (by kernel_rfl) hS33 (fun _ h => ⟨(h.own_rd_i 0 rfl), (rdH_rd (h.focus 2 rfl)), (rdH_rd (h.focus 3 rfl)), h.cel_at 5 rfl, (rdH_rd (h.focus 6 rfl)), (hX (h.focus 7 rfl))⟩) (fun w35 hS35 s36 => ?_)
       clear hS33
       refine DP (i := 0) tx13_18 (bt 20 1) rfl rfl rfl rfl (fun w => run_move rfl) ?_
       refine DP (i := 1) tx13_18 (bt 20 3) rfl rfl rfl rfl (fun w => run_move rfl) ?_
       rcases Bool.eq_false_or_eq_true (hasR A u.lb.l) with g90 | g90
       ·
        obtain ⟨ar, har⟩ := has_some g90
        have halt := (List.getElem?_eq_some_iff.1 har).1
        have hsra : ra.isSome = true := rd_isSome ((hS35.own_rd_i 0 rfl)) (by omega)
        refine DPn (i := 2) tx13_18 (bt 20 7) rfl rfl rfl g90 rfl (fun w => run_fa 2 ⟨g29, 2, none⟩ rfl rfl) ?_
        refine DTn (i := 3) tx13_18 (bt 20 15) s36 rfl rfl rfl g90 rfl (fun w hs => run_load Ty.ag66 rfl ((hs.2.2.2.1 2).trans rfl)) ?_
        refine DPn (i := 4) tx13_18 (bt 20 31) rfl rfl rfl g90 rfl (fun w => run_len rfl Tryz.underlying66 rfl) ?_
        refine DPn (i := 5) tx13_18 (bt 20 63) rfl rfl rfl g90 rfl (fun w => run_gtr rfl rfl) ?_
        refine DP (i := 6) tx13_18 (bt 20 127) rfl rfl rfl rfl (fun w => run_pickT rfl g90 rfl) ?_
        refine DP (i := 7) tx13_18 (bt 20 255) rfl rfl rfl rfl (fun w => run_move rfl) ?_
        refine dcase (p := 0 < ((u.pt.l.length : Nat) : Int)) (fun g96 d96 => ?_) (fun g96 d96 => ?_)
        ·
         obtain ⟨p0, hp0⟩ : ∃ qq, u.pt.l[0]? = some qq := ⟨_, List.getElem?_eq_getElem (by omega)⟩
         have hsp : u.pt.a.isSome = true := rd_isSome ((rdH_rd (hS35.focus 3 rfl))) (by omega)
         refine DPn (i := 8) tx13_18 (bt 20 511) rfl rfl rfl d96 rfl (fun w => run_fa 2 ⟨g29, 2, none⟩ rfl rfl) ?_
         refine DTn (i := 9) tx13_18 (bt 20 1023) s36 rfl rfl rfl d96 rfl (fun w hs => run_load Ty.ag66 rfl ((hs.2.2.2.1 2).trans rfl)) ?_
         refine DTn (i := 10) tx13_18 (bt 20 2047) s36 rfl rfl rfl d96 rfl (fun w hs => run_indexAddr (q := adr u.pt.a (0 * 2)) Tryz.underlying66 Ty.sz103 rfl rfl (by omega) (by omega) ((hs.2.2.1).2.1 (by omega)) rfl) ?_
         refine DPn (i := 11) tx13_18 (bt 20 4095) rfl rfl rfl d96 rfl (fun w => run_fa 0 (adr u.pt.a (0 * 2 + 0)) rfl (adr_add _ (by assumption) _ _)) ?_
         refine DTn (i := 12) tx13_18 (bt 20 8191) s36 rfl rfl rfl d96 rfl (fun w hs => run_load Ty.ag2 rfl ((hs.2.2.1).cell ((flat_get ptc_len hp0 (j := 0) (by decide)).trans rfl))) ?_
         refine DPn (i := 13) tx13_18 (bt 20 16383) rfl rfl rfl d96 rfl (fun w => run_move rfl) ?_
         refine DPn (i := 14) tx13_18 (bt 20 32767) rfl rfl rfl d96 rfl (fun w => run_move rfl) ?_
         refine DTn (i := 15) tx13_18 (bt 20 65535) s36 rfl rfl rfl d96 rfl (fun w hs => run_indexAddr (q := adr ra ((atR A u.lb.l) * 3)) Tryz.underlying49 Ty.sz99 rfl rfl (by omega) (by omega) ((hs.1).2.1 (by omega)) rfl) ?_
         refine DPn (i := 16) tx13_18 (bt 20 131071) rfl rfl rfl d96 rfl (fun w => run_fa 1 (adr ra ((atR A u.lb.l) * 3 + 1)) rfl (adr_add _ (by assumption) _ _)) ?_
         refine DTn (i := 17) tx13_18 (bt 20 262143) s36 rfl rfl rfl d96 rfl (fun w hs => run_load Ty.ag2 rfl ((hs.1).cell ((flat_get mrc_len har (j := 1) (by decide)).trans rfl))) ?_
         refine DPn (i := 18) tx13_18 (bt 20 524287) rfl rfl rfl d96 rfl (fun w => run_leq rfl rfl) ?_
         refine DP (i := 19) tx13_18 (bt 20 1048575) rfl rfl rfl rfl (fun w => run_pickT rfl d96 rfl) ?_
         refine WD.done tx13_18 (by kernel_rfl) ?_
         refine NX.go ?_
         refine WP.condP rfl (fun g108 => ?_) (fun g108 => ?_)
         ·
          refine WP.seq (WP.region rfl ?_)
          refine WO.asg rfl rfl ?_
          refine WO.nil (NX.go (WP.ret (NX.blkRet (NX.thenRet (NX.thenRet (NX.blkRet (NX.blkRet (NX.thenRet (NX.thenRet (NX.blkRet (NX.thenRet ?_)))))))))))
          refine NX.done (l := [.tmp 2]) rfl rfl ?_
          have h8 : followV bs = ordGo 1 [] bs := by unfold followV; rw [if_neg (by simp [chkAll_zero hchk])]
          have h7 : b1.rs.l.any (fun r => clashP (A.map MRow.p) r.p) = true := by rw [← hcl, drop_cons hu, List.any_cons, clash_at hAs g90 har hp0, decide_eq_true g108]; rfl
          exact ⟨congrArg (Value.int .i64) (by rw [h8, ← hgo, drop_cons hb1, ordGo, if_neg (by simp [hfn]), ← hA, if_pos h7]), hS35.drop.drop.drop.drop.drop.drop.drop⟩
         ·
          refine WP.skip (NX.blk (NX.go ?_))
          have hck1 : clashP (A.map MRow.p) u.p = false := by rw [clash_at hAs g90 har hp0]; exact decide_eq_false g108
          refine WP.region rfl ?_
          refine WO.mv rfl rfl ?_
          refine WO.V (run_add rfl rfl (IntWalk.i64_in _ (by omega))) ?_
          refine WO.asg rfl rfl ?_
          refine WO.nil ?_
          exact NX.again (k + 1) ⟨⟨by omega, by rw [← hcl, drop_cons hu, List.any_cons, hck1, Bool.false_or]⟩, ((hS35.mask [true, true, false, false, true, false] (L' := own ra A.length rc 99 3 (A.flatMap mrc) :: allA mrA A :: allA mrA b1.rs.l :: (rsA b1.rs) :: X :: allA blA bs :: L) rfl).permT [0, 0, 1] (L' := own ra A.length rc 99 3 (A.flatMap mrc) :: allA mrA A :: (rsA b1.rs) :: allA mrA b1.rs.l :: X :: allA blA bs :: L) rfl)⟩ (by show b1.rs.l.length - (k + 1) < b1.rs.l.length - k; omega) (Sub.cons rfl (Sub.cons rfl (Sub.cons rfl (Sub.consE rfl (by congr 1) (Sub.nil _)))))
        ·
         refine DO (i := 8) tx13_18 (bt 20 511) rfl rfl rfl d96 rfl ?_
         refine DO (i := 9) tx13_18 (bt 20 1023) rfl rfl rfl d96 rfl ?_
         refine DO (i := 10) tx13_18 (bt 20 2047) rfl rfl rfl d96 rfl ?_
         refine DO (i := 11) tx13_18 (bt 20 4095) rfl rfl rfl d96 rfl ?_
         refine DO (i := 12) tx13_18 (bt 20 8191) rfl rfl rfl d96 rfl ?_
         refine DO (i := 13) tx13_18 (bt 20 16383) rfl rfl rfl d96 rfl ?_
         refine DO (i := 14) tx13_18 (bt 20 32767) rfl rfl rfl d96 rfl ?_
         refine DO (i := 15) tx13_18 (bt 20 65535) rfl rfl rfl d96 rfl ?_
         refine DO (i := 16) tx13_18 (bt 20 131071) rfl rfl rfl d96 rfl ?_
         refine DO (i := 17) tx13_18 (bt 20 262143) rfl rfl rfl d96 rfl ?_
         refine DO (i := 18) tx13_18 (bt 20 524287) rfl rfl rfl d96 rfl ?_
         refine DP (i := 19) tx13_18 (bt 20 1048575) rfl rfl rfl rfl (fun w => run_pickF rfl d96 rfl) ?_
         refine WD.done tx13_18 (by kernel_rfl) ?_
         refine NX.go ?_
         refine WP.condF rfl rfl ?_
         refine WP.skip (NX.blk (NX.go ?_))
         have hck1 : clashP (A.map MRow.p) u.p = false := clash_nil (List.length_eq_zero_iff.1 (by omega))
         refine WP.region rfl ?_
         refine WO.mv rfl rfl ?_
         refine WO.V (run_add rfl rfl (IntWalk.i64_in _ (by omega))) ?_
         refine WO.asg rfl rfl ?_
         refine WO.nil ?_
         exact NX.again (k + 1) ⟨⟨by omega, by rw [← hcl, drop_cons hu, List.any_cons, hck1, Bool.false_or]⟩, ((hS35.mask [true, true, false, false, true, false] (L' := own ra A.length rc 99 3 (A.flatMap mrc) :: allA mrA A :: allA mrA b1.rs.l :: (rsA b1.rs) :: X :: allA blA bs :: L) rfl).permT [0, 0, 1] (L' := own ra A.length rc 99 3 (A.flatMap mrc) :: allA mrA A :: (rsA b1.rs) :: allA mrA b1.rs.l :: X :: allA blA bs :: L) rfl)⟩ (by show b1.rs.l.length - (k + 1) < b1.rs.l.length - k; omega) (Sub.cons rfl (Sub.cons rfl (Sub.cons rfl (Sub.consE rfl (by congr 1) (Sub.nil _)))))
       ·
        refine DO (i := 2) tx13_18 (bt 20 7) rfl rfl rfl g90 rfl ?_
        refine DO (i := 3) tx13_18 (bt 20 15) rfl rfl rfl g90 rfl ?_
        refine DO (i := 4) tx13_18 (bt 20 31) rfl rfl rfl g90 rfl ?_
        refine DO (i := 5) tx13_18 (bt 20 63) rfl rfl rfl g90 rfl ?_
        refine DP (i := 6) tx13_18 (bt 20 127) rfl rfl rfl rfl (fun w => run_pickF rfl g90 rfl) ?_
        refine DP (i := 7) tx13_18 (bt 20 255) rfl rfl rfl rfl (fun w => run_move rfl) ?_
        refine DO (i := 8) tx13_18 (bt 20 511) rfl rfl rfl rfl rfl ?_
        refine DO (i := 9) tx13_18 (bt 20 1023) rfl rfl rfl rfl rfl ?_
        refine DO (i := 10) tx13_18 (bt 20 2047) rfl rfl rfl rfl rfl ?_
        refine DO (i := 11) tx13_18 (bt 20 4095) rfl rfl rfl rfl rfl ?_
        refine DO (i := 12) tx13_18 (bt 20 8191) rfl rfl rfl rfl rfl ?_
        refine DO (i := 13) tx13_18 (bt 20 16383) rfl rfl rfl rfl rfl ?_
        refine DO (i := 14) tx13_18 (bt 20 32767) rfl rfl rfl rfl rfl ?_
        refine DO (i := 15) tx13_18 (bt 20 65535) rfl rfl rfl rfl rfl ?_
        refine DO (i := 16) tx13_18 (bt 20 131071) rfl rfl rfl rfl rfl ?_
        refine DO (i := 17) tx13_18 (bt 20 262143) rfl rfl rfl rfl rfl ?_
        refine DO (i := 18) tx13_18 (bt 20 524287) rfl rfl rfl rfl rfl ?_
        refine DP (i := 19) tx13_18 (bt 20 1048575) rfl rfl rfl rfl (fun w => run_pickF rfl rfl rfl) ?_
        refine WD.done tx13_18 (by kernel_rfl) ?_
        refine NX.go ?_
        refine WP.condF rfl rfl ?_
        refine WP.skip (NX.blk (NX.go ?_))
        have hck1 : clashP (A.map MRow.p) u.p = false := clash_no hAs (by simpa using g90)
        refine WP.region rfl ?_
        refine WO.mv rfl rfl ?_
        refine WO.V (run_add rfl rfl (IntWalk.i64_in _ (by omega))) ?_
        refine WO.asg rfl rfl ?_
        refine WO.nil ?_
        exact NX.again (k + 1) ⟨⟨by omega, by rw [← hcl, drop_cons hu, List.any_cons, hck1, Bool.false_or]⟩, ((hS35.mask [true, true, false, false, true, false] (L' := own ra A.length rc 99 3 (A.flatMap mrc) :: allA mrA A :: allA mrA b1.rs.l :: (rsA b1.rs) :: X :: allA blA bs :: L) rfl).permT [0, 0, 1] (L' := own ra A.length rc 99 3 (A.flatMap mrc) :: allA mrA A :: (rsA b1.rs) :: allA mrA b1.rs.l :: X :: allA blA bs :: L) rfl)⟩ (by show b1.rs.l.length - (k + 1) < b1.rs.l.length - k; omega) (Sub.cons rfl (Sub.cons rfl (Sub.cons rfl (Sub.consE rfl (by congr 1) (Sub.nil _)))))
      ·
       refine WP.exit (NX.thenExit (NX.thenExit ?_))
       refine NX.blkExit ?_
       refine NX.blk (NX.go ?_)
       have hcl0 : b1.rs.l.any (fun r => clashP (A.map MRow.p) r.p) = false := by rw [← hcl, List.drop_of_length_le (by omega)]; rfl
       refine WP.region rfl ?_
       refine WO.mv rfl rfl ?_
       refine WO.V (run_add rfl rfl (IntWalk.i64_in _ (by omega))) ?_
       refine WO.asg rfl rfl ?_
       refine WO.nil ?_
       exact NX.again (i + 1, b1.to + 1) ⟨⟨by omega, fun h => by omega, fun q _ h => by rw [Nat.add_sub_cancel, hb1] at h; cases h; rfl, by rw [← hgo, take_snocM hb1, List.map_append, List.map_cons, List.map_nil, lastsA_snoc, drop_cons hb1, ordGo, if_neg (by simp [hfn]), if_neg (by rw [← hA, hcl0]; decide)]; rfl⟩, hS27.drop.drop.drop.drop⟩ (by show bs.length - (i + 1) < bs.length - i; omega) (Sub.cons rfl (Sub.consE rfl (by congr 1) (Sub.nil _)))
    ·
     exact absurd g44 (by omega)
  ·
   refine WP.exit (NX.thenExit (NX.thenExit ?_))
   refine NX.blkExit ?_
   refine NX.go (WP.seq (WP.region rfl ?_))
   refine WO.asg rfl rfl ?_
   refine WO.nil (NX.go (WP.ret ?_))
   refine NX.done (l := [.tmp 2]) rfl rfl ?_
   have h8 : followV bs = ordGo 1 [] bs := by unfold followV; rw [if_neg (by simp [chkAll_zero hchk])]
   exact ⟨congrArg (Value.int .i64) (by rw [h8, ← hgo, List.drop_of_length_le (by omega)]; rfl), hS5⟩
end Go.Proofs.YtidoidoelgfnaaaGreatDoor.SL
