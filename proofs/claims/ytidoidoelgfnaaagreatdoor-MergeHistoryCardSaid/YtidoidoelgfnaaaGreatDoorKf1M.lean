import Derived.Test.YtidoidoelgfnaaaGreatDoorKk1M
import Derived.Test.YtidoidoelgfnaaaGreatDoorRc2
import Derived.Test.YtidoidoelgfnaaaGreatDoorKp1M
import Derived.Test.YtidoidoelgfnaaaGreatDoorKb
/- What is wrong with blocks: the program. -/
namespace Go.Proofs.YtidoidoelgfnaaaGreatDoor.SL
open Go.RowKit Go.Proofs.YtidoidoelgfnaaaGreatDoor
open Go.Proofs.YtidoidoelgfnaaaGreatDoorW.PrintLast (rtab opsOf)
set_option linter.unusedVariables false
set_option linter.unusedSimpArgs false
theorem t96_4 : rtab .any (opsOf Tryz.f96 4) = (true, [([], []), ([0], [0]), ([], []), ([2], [2]), ([1, 3], [1, 3]), ([4], [4]), ([5], [5]), ([6, 5], [5, 6]), ([7, 5, 5], [5, 7]), ([8], [8]), ([9, 8], [8, 9]), ([8], [8]), ([11, 8], [8, 11]), ([8], [8]), ([13, 8], [8, 13]), ([12, 14, 8], [8, 12, 14]), ([15, 8], [8, 15]), ([16, 8], [8, 16]), ([10, 17, 8], [8, 10, 17]), ([8, 18, 5], [5, 8, 18]), ([5, 19], [5, 19])]) := by kernel_rfl
theorem rises_spec {B w : World} {L : List HP} (u : MRow) (hu : u.pt.l.length ≤ 8796093022208) (hS : St B ((ptsA u.pt) :: L) w) : Does Tryz.prog 96 [Value.agg #[Value.slice u.lb.a u.lb.l.length u.lb.cap, Value.int .i64 u.last, Value.slice u.pt.a u.pt.l.length u.pt.cap]] w (fun v w1 => v = .bool (ptsOk u.last none u.pt.l) ∧ St B ((ptsA u.pt) :: L) w1) := by
 refine enter (n := 35) Tryz.func96 rfl rfl [Value.agg #[Value.slice u.lb.a u.lb.l.length u.lb.cap, Value.int .i64 u.last, Value.slice u.pt.a u.pt.l.length u.pt.cap]] rfl ?_
 refine WP.seq (WP.region rfl ?_)
 refine WO.box (l := (mrc u)) hS rfl rfl rfl (fun g2 w1 lg2 hS1 => ?_)
 clear hS
 refine WO.asg rfl rfl ?_
 refine WO.nil (NX.go (WP.seq (WP.seq (WP.region rfl ?_))))
 refine WO.V (run_fa 2 ⟨g2, 2, none⟩ rfl rfl) ?_
 refine WO.V (run_load Ty.ag66 rfl ((hS1.cel_at 0 rfl 2).trans rfl)) ?_
 refine WO.V (run_len rfl Tryz.underlying66 rfl) ?_
 refine WO.mv rfl rfl ?_
 refine WO.nil (NX.go (WP.block ?_))
 refine WP.loop (α := Nat × Option Pt) (fun x => match x with | ⟨k, pp⟩ => [(1, Value.pointer (some ⟨g2, 0, none⟩)), (6, Value.slice u.pt.a u.pt.l.length u.pt.cap), (7, Value.int .i64 ((u.pt.l.length : Nat) : Int)), (8, Value.int .i64 (k : Int))]) (fun x w => match x with | ⟨k, pp⟩ => (k ≤ u.pt.l.length ∧ (k = 0 → pp = none) ∧ (∀ q, 0 < k → u.pt.l[k - 1]? = some q → pp = some q) ∧ ptsOk u.last pp (u.pt.l.drop k) = ptsOk u.last none u.pt.l) ∧ St B (cel g2 (mrc u) 93 :: (ptsA u.pt) :: L) w) (fun x => match x with | ⟨k, pp⟩ => u.pt.l.length - k) (0, none) ⟨⟨Nat.zero_le _, fun _ => rfl, fun q h => absurd h (by omega), rfl⟩, hS1⟩ (Sub.cons rfl (Sub.cons rfl (Sub.cons rfl (Sub.consE rfl (by first | rfl | first | rfl | (congr 1; omega) | (simp; done) | (simp; omega)) (Sub.nil _))))) ?_
 rintro ⟨k, pp⟩ w3 ⟨⟨hk, hpz, hpq, hpgo⟩, hS3⟩
 clear hS1
 refine WP.seq (WP.region rfl ?_)
 refine WO.V (run_lss rfl rfl) ?_
 refine WO.nil (NX.go (WP.seq ?_))
 refine WP.condP rfl (fun g9 => ?_) (fun g9 => ?_)
 ·
  refine WP.skip (NX.go (WP.seq (WP.block (WP.seq ?_))))
  obtain ⟨p, hp⟩ : ∃ qq, u.pt.l[k]? = some qq := ⟨_, List.getElem?_eq_getElem (by omega)⟩
  have hpe : 0 < k → ∃ q, u.pt.l[k - 1]? = some q := fun h => ⟨_, List.getElem?_eq_getElem (by omega)⟩
  refine WP.region rfl ?_
  refine WO.mv rfl rfl ?_
  refine WO.V (run_indexAddr (q := adr u.pt.a (k * 2)) Tryz.underlying66 Ty.sz103 rfl rfl (by omega) (by omega) ((rdH_rd (hS3.focus 1 rfl)).2.1 (by omega)) rfl) ?_
  refine WO.V (run_loadAgg (vs := (ptc p)) Ty.ag103 Ty.sz103 rfl ((rdH_rd (hS3.focus 1 rfl)).cells (by rw [flat_len ptc_len]; omega) (flat_part ptc_len hp)).1 ((rdH_rd (hS3.focus 1 rfl)).cells (by rw [flat_len ptc_len]; omega) (flat_part ptc_len hp)).2) ?_
  refine WO.alloc (l := [Value.int .i64 0, Value.int .u64 0]) hS3 Ty.zr103 rfl rfl (fun g5 w4 lg5 hS4 => ?_)
  clear hS3
  refine WO.asg rfl rfl ?_
  refine WO.store (l' := (ptc p)) 0 hS4 rfl Ty.sz103 rfl rfl rfl rfl rfl (Nat.le_of_ble_eq_true rfl) rfl (fun w6 (hS6 : St B (cel g5 (ptc p) 103 :: _::_::L) w6) => ?_)
  clear hS4
  refine WO.nil (NX.go (WP.seq ?_))
  have hsp : u.pt.a.isSome = true := rd_isSome ((rdH_rd (hS6.focus 2 rfl))) (by omega)
  refine WD.start (fun w => (∀ jz, World.cell? w ⟨g5, jz, none⟩ = (ptc p)[jz]?) ∧ (∀ jz, World.cell? w ⟨g2, jz, none⟩ = (mrc u)[jz]?) ∧ Rd w u.pt.a u.pt.l.length 2 (u.pt.l.flatMap ptc)) [] (bt 21 0) Ty.mo rfl (by kernel_rfl) hS6 (fun _ h => ⟨h.cel_at 0 rfl, h.cel_at 1 rfl, (rdH_rd (h.focus 2 rfl))⟩) (fun w7 hS7 s8 => ?_)
  clear hS6
  refine DP (i := 0) t96_4 (bt 21 1) rfl rfl rfl rfl (fun w => run_fa 0 ⟨g5, 0, none⟩ rfl rfl) ?_
  refine DT (i := 1) t96_4 (bt 21 3) s8 rfl rfl rfl rfl (fun w hs => run_load Ty.ag2 rfl ((hs.1 0).trans rfl)) ?_
  refine DP (i := 2) t96_4 (bt 21 7) rfl rfl rfl rfl (fun w => run_fa 1 ⟨g2, 1, none⟩ rfl rfl) ?_
  refine DT (i := 3) t96_4 (bt 21 15) s8 rfl rfl rfl rfl (fun w hs => run_load Ty.ag2 rfl ((hs.2.1 1).trans rfl)) ?_
  refine DP (i := 4) t96_4 (bt 21 31) rfl rfl rfl rfl (fun w => run_gtr rfl rfl) ?_
  refine DP (i := 5) t96_4 (bt 21 63) rfl rfl rfl rfl (fun w => run_move rfl) ?_
  refine dcase (p := u.last < p.t) (fun g18 d18 => ?_) (fun g18 d18 => ?_)
  ·
   refine DO (i := 6) t96_4 (bt 21 127) rfl rfl rfl d18 rfl ?_
   refine DO (i := 7) t96_4 (bt 21 255) rfl rfl rfl d18 rfl ?_
   refine DO (i := 8) t96_4 (bt 21 511) rfl rfl rfl d18 rfl ?_
   refine DU (i := 9) t96_4 (bt 21 1023) rfl rfl rfl rfl ?_
   refine DU (i := 10) t96_4 (bt 21 2047) rfl rfl rfl rfl ?_
   refine DU (i := 11) t96_4 (bt 21 4095) rfl rfl rfl rfl ?_
   refine DU (i := 12) t96_4 (bt 21 8191) rfl rfl rfl rfl ?_
   refine DU (i := 13) t96_4 (bt 21 16383) rfl rfl rfl rfl ?_
   refine DU (i := 14) t96_4 (bt 21 32767) rfl rfl rfl rfl ?_
   refine DU (i := 15) t96_4 (bt 21 65535) rfl rfl rfl rfl ?_
   refine DU (i := 16) t96_4 (bt 21 131071) rfl rfl rfl rfl ?_
   refine DU (i := 17) t96_4 (bt 21 262143) rfl rfl rfl rfl ?_
   refine DU (i := 18) t96_4 (bt 21 524287) rfl rfl rfl rfl ?_
   refine DO (i := 19) t96_4 (bt 21 1048575) rfl rfl rfl d18 rfl ?_
   refine DP (i := 20) t96_4 (bt 21 2097151) rfl rfl rfl rfl (fun w => run_pickT rfl d18 rfl) ?_
   refine WD.done t96_4 (by kernel_rfl) ?_
   refine NX.go ?_
   refine WP.condT rfl rfl ?_
   refine WP.seq (WP.region rfl ?_)
   refine WO.asg rfl rfl ?_
   refine WO.nil (NX.go (WP.ret (NX.blkRet (NX.thenRet (NX.thenRet (NX.blkRet (NX.thenRet ?_)))))))
   refine NX.done (l := [.tmp 2]) rfl rfl ?_
   have hpb : ptsOk u.last none u.pt.l = false := by rw [← hpgo, drop_cons hp, ptsOk, show (!(decide (u.last < p.t) || _)) = false by simp [g18], Bool.false_and]
   exact ⟨congrArg Value.bool hpb.symm, hS7.drop.drop⟩
  ·
   refine DPn (i := 6) t96_4 (bt 21 127) rfl rfl rfl d18 rfl (fun w => run_move rfl) ?_
   refine DPn (i := 7) t96_4 (bt 21 255) rfl rfl rfl d18 rfl (fun w => run_gtr rfl rfl) ?_
   refine DPn (i := 8) t96_4 (bt 21 511) rfl rfl rfl d18 rfl (fun w => run_move rfl) ?_
   refine dcase (p := 0 < (k : Int)) (fun g21 d21 => ?_) (fun g21 d21 => ?_)
   ·
    obtain ⟨pq, hpq1⟩ := hpe (by omega)
    refine DPn (i := 9) t96_4 (bt 21 1023) rfl rfl rfl d21 rfl (fun w => run_fa 0 ⟨g5, 0, none⟩ rfl rfl) ?_
    refine DTn (i := 10) t96_4 (bt 21 2047) s8 rfl rfl rfl d21 rfl (fun w hs => run_load Ty.ag2 rfl ((hs.1 0).trans rfl)) ?_
    refine DPn (i := 11) t96_4 (bt 21 4095) rfl rfl rfl d21 rfl (fun w => run_fa 2 ⟨g2, 2, none⟩ rfl rfl) ?_
    refine DTn (i := 12) t96_4 (bt 21 8191) s8 rfl rfl rfl d21 rfl (fun w hs => run_load Ty.ag66 rfl ((hs.2.1 2).trans rfl)) ?_
    refine DPn (i := 13) t96_4 (bt 21 16383) rfl rfl rfl d21 rfl (fun w => run_move rfl) ?_
    refine DPn (i := 14) t96_4 (bt 21 32767) rfl rfl rfl d21 rfl (fun w => run_sub rfl rfl (IntWalk.i64_in _ (by omega))) ?_
    refine DTn (i := 15) t96_4 (bt 21 65535) s8 rfl rfl rfl d21 rfl (fun w hs => run_indexAddr (q := adr u.pt.a ((k - 1) * 2)) Tryz.underlying66 Ty.sz103 rfl rfl (by omega) (by omega) ((hs.2.2).2.1 (by omega)) (by rw [show ((k : Int) - 1).toNat = k - 1 by omega])) ?_
    refine DPn (i := 16) t96_4 (bt 21 131071) rfl rfl rfl d21 rfl (fun w => run_fa 0 (adr u.pt.a ((k - 1) * 2 + 0)) rfl (adr_add _ (by assumption) _ _)) ?_
    refine DTn (i := 17) t96_4 (bt 21 262143) s8 rfl rfl rfl d21 rfl (fun w hs => run_load Ty.ag2 rfl ((hs.2.2).cell ((flat_get ptc_len hpq1 (j := 0) (by decide)).trans rfl))) ?_
    refine DPn (i := 18) t96_4 (bt 21 524287) rfl rfl rfl d21 rfl (fun w => run_leq rfl rfl) ?_
    refine DPn (i := 19) t96_4 (bt 21 1048575) rfl rfl rfl d18 rfl (fun w => run_pickT rfl d21 rfl) ?_
    refine DP (i := 20) t96_4 (bt 21 2097151) rfl rfl rfl rfl (fun w => run_pickF rfl d18 rfl) ?_
    refine WD.done t96_4 (by kernel_rfl) ?_
    refine NX.go ?_
    refine WP.condP rfl (fun g33 => ?_) (fun g33 => ?_)
    ·
     refine WP.seq (WP.region rfl ?_)
     refine WO.asg rfl rfl ?_
     refine WO.nil (NX.go (WP.ret (NX.blkRet (NX.thenRet (NX.thenRet (NX.blkRet (NX.thenRet ?_)))))))
     refine NX.done (l := [.tmp 2]) rfl rfl ?_
     have hpb : ptsOk u.last none u.pt.l = false := by rw [← hpgo, drop_cons hp, ptsOk, show (!(decide (u.last < p.t) || tmV pp p)) = false by rw [hpq pq (by omega) hpq1]; simp [tmV, g33], Bool.false_and]
     exact ⟨congrArg Value.bool hpb.symm, hS7.drop.drop⟩
    ·
     refine WP.skip (NX.blk (NX.go ?_))
     have hpk : (!(decide (u.last < p.t) || tmV pp p)) = true := by rw [hpq pq (by omega) hpq1]; simp [tmV]; omega
     refine WP.region rfl ?_
     refine WO.V (run_add rfl rfl (IntWalk.i64_in _ (by omega))) ?_
     refine WO.mv rfl rfl ?_
     refine WO.nil ?_
     exact NX.again (k + 1, some p) ⟨⟨by omega, fun h => by omega, fun q _ h => by rw [Nat.add_sub_cancel, hp] at h; cases h; rfl, by rw [← hpgo, drop_cons hp, ptsOk, hpk]; rfl⟩, hS7.drop⟩ (by show u.pt.l.length - (k + 1) < u.pt.l.length - k; omega) (Sub.cons rfl (Sub.cons rfl (Sub.cons rfl (Sub.consE rfl (by congr 1) (Sub.nil _)))))
   ·
    refine DO (i := 9) t96_4 (bt 21 1023) rfl rfl rfl d21 rfl ?_
    refine DO (i := 10) t96_4 (bt 21 2047) rfl rfl rfl d21 rfl ?_
    refine DO (i := 11) t96_4 (bt 21 4095) rfl rfl rfl d21 rfl ?_
    refine DO (i := 12) t96_4 (bt 21 8191) rfl rfl rfl d21 rfl ?_
    refine DO (i := 13) t96_4 (bt 21 16383) rfl rfl rfl d21 rfl ?_
    refine DO (i := 14) t96_4 (bt 21 32767) rfl rfl rfl d21 rfl ?_
    refine DO (i := 15) t96_4 (bt 21 65535) rfl rfl rfl d21 rfl ?_
    refine DO (i := 16) t96_4 (bt 21 131071) rfl rfl rfl d21 rfl ?_
    refine DO (i := 17) t96_4 (bt 21 262143) rfl rfl rfl d21 rfl ?_
    refine DO (i := 18) t96_4 (bt 21 524287) rfl rfl rfl d21 rfl ?_
    refine DPn (i := 19) t96_4 (bt 21 1048575) rfl rfl rfl d18 rfl (fun w => run_pickF rfl d21 rfl) ?_
    refine DP (i := 20) t96_4 (bt 21 2097151) rfl rfl rfl rfl (fun w => run_pickF rfl d18 rfl) ?_
    refine WD.done t96_4 (by kernel_rfl) ?_
    refine NX.go ?_
    refine WP.condF rfl rfl ?_
    refine WP.skip (NX.blk (NX.go ?_))
    have hpk : (!(decide (u.last < p.t) || tmV pp p)) = true := by rw [hpz (by omega)]; simp [tmV]; omega
    refine WP.region rfl ?_
    refine WO.V (run_add rfl rfl (IntWalk.i64_in _ (by omega))) ?_
    refine WO.mv rfl rfl ?_
    refine WO.nil ?_
    exact NX.again (k + 1, some p) ⟨⟨by omega, fun h => by omega, fun q _ h => by rw [Nat.add_sub_cancel, hp] at h; cases h; rfl, by rw [← hpgo, drop_cons hp, ptsOk, hpk]; rfl⟩, hS7.drop⟩ (by show u.pt.l.length - (k + 1) < u.pt.l.length - k; omega) (Sub.cons rfl (Sub.cons rfl (Sub.cons rfl (Sub.consE rfl (by congr 1) (Sub.nil _)))))
 ·
  refine WP.exit (NX.thenExit (NX.thenExit ?_))
  refine NX.blkExit ?_
  refine NX.go (WP.seq (WP.region rfl ?_))
  refine WO.asg rfl rfl ?_
  refine WO.nil (NX.go (WP.ret ?_))
  refine NX.done (l := [.tmp 2]) rfl rfl ?_
  exact ⟨congrArg Value.bool (by rw [← hpgo, List.drop_of_length_le (by omega)]; rfl), hS3.drop⟩
theorem t58_8 : rtab .any (opsOf Tryz.f58 8) = (true, [([], []), ([0], [0]), ([1], [1]), ([2], [2]), ([3, 2], [2, 3]), ([2], [2]), ([5, 2], [2, 5]), ([4, 6, 2], [2, 4, 6]), ([7, 2], [2, 7]), ([8, 2], [2, 8]), ([2], [2]), ([10, 2], [2, 10]), ([9, 11, 2, 2], [2, 9, 11]), ([12, 2], [2, 12]), ([2, 13], [2, 13]), ([14, 12], [14]), ([15], [15]), ([16, 15, 15], [15, 16]), ([17, 15], [15, 17]), ([15, 18], [15, 18]), ([19, 17], [19])]) := by kernel_rfl
theorem bchk_spec {B w : World} {L : List HP} (b1 : BlkV) (hz : MzB b1) (hS : St B (blA b1 :: L) w) : Does Tryz.prog 58 [Value.agg #[Value.int .i64 b1.first, Value.int .i64 b1.to, Value.slice b1.rs.a b1.rs.l.length b1.rs.cap, Value.slice b1.ds.a b1.ds.l.length b1.ds.cap]] w (fun v w1 => v = .int .i64 (checkB b1) ∧ St B (blA b1 :: L) w1) := by
 replace hS := blA_open hS
 have hnr := hz.nr
 have hnd := hz.nd
 refine enter (n := 73) Tryz.func58 rfl rfl [Value.agg #[Value.int .i64 b1.first, Value.int .i64 b1.to, Value.slice b1.rs.a b1.rs.l.length b1.rs.cap, Value.slice b1.ds.a b1.ds.l.length b1.ds.cap]] rfl ?_
 refine WP.seq (WP.region rfl ?_)
 refine WO.box (l := (blc b1)) hS rfl rfl rfl (fun g2 w1 lg2 hS1 => ?_)
 clear hS
 refine WO.asg rfl rfl ?_
 refine WO.nil (NX.go (WP.seq (WP.seq (WP.region rfl ?_))))
 refine WO.V (run_fa 0 ⟨g2, 0, none⟩ rfl rfl) ?_
 refine WO.V (run_load Ty.ag3 rfl ((hS1.cel_at 0 rfl 0).trans rfl)) ?_
 refine WO.V (run_lss rfl rfl) ?_
 refine WO.mv rfl rfl ?_
 refine dcase (p := b1.first < 1) (fun g10 d10 => ?_) (fun g10 d10 => ?_)
 ·
  refine WO.off rfl rfl d10 rfl ?_
  refine WO.off rfl rfl d10 rfl ?_
  refine WO.off rfl rfl d10 rfl ?_
  refine WO.V (run_pickT rfl d10 rfl) ?_
  refine WO.mv rfl rfl ?_
  refine WO.off rfl rfl rfl rfl ?_
  refine WO.off rfl rfl rfl rfl ?_
  refine WO.off rfl rfl rfl rfl ?_
  refine WO.off rfl rfl rfl rfl ?_
  refine WO.off rfl rfl rfl rfl ?_
  refine WO.V (run_pickT rfl rfl rfl) ?_
  refine WO.nil (NX.go ?_)
  refine WP.condT rfl rfl ?_
  refine WP.seq (WP.region rfl ?_)
  refine WO.asg rfl rfl ?_
  refine WO.nil (NX.go (WP.ret (NX.thenRet ?_)))
  refine NX.done (l := [.tmp 2]) rfl rfl ?_
  exact ⟨congrArg (Value.int .i64) (by unfold checkB; rw [if_pos (by omega)]), hS1.drop.drop.drop.drop.drop⟩
 ·
  refine WO.on rfl rfl d10 ?_
  refine WO.V (run_fa 1 ⟨g2, 1, none⟩ rfl rfl) ?_
  refine WO.on rfl rfl d10 ?_
  refine WO.V (run_load Ty.ag3 rfl ((hS1.cel_at 0 rfl 1).trans rfl)) ?_
  refine WO.on rfl rfl d10 ?_
  refine WO.V (run_gtr rfl rfl) ?_
  refine WO.V (run_pickF rfl d10 rfl) ?_
  refine WO.mv rfl rfl ?_
  refine dcase (p := 99999999 < b1.to) (fun g15 d15 => ?_) (fun g15 d15 => ?_)
  ·
   refine WO.off rfl rfl d15 rfl ?_
   refine WO.off rfl rfl d15 rfl ?_
   refine WO.off rfl rfl d15 rfl ?_
   refine WO.off rfl rfl d15 rfl ?_
   refine WO.off rfl rfl d15 rfl ?_
   refine WO.V (run_pickT rfl d15 rfl) ?_
   refine WO.nil (NX.go ?_)
   refine WP.condT rfl rfl ?_
   refine WP.seq (WP.region rfl ?_)
   refine WO.asg rfl rfl ?_
   refine WO.nil (NX.go (WP.ret (NX.thenRet ?_)))
   refine NX.done (l := [.tmp 2]) rfl rfl ?_
   exact ⟨congrArg (Value.int .i64) (by unfold checkB; rw [if_pos (by omega)]), hS1.drop.drop.drop.drop.drop⟩
  ·
   refine WO.on rfl rfl d15 ?_
   refine WO.V (run_fa 0 ⟨g2, 0, none⟩ rfl rfl) ?_
   refine WO.on rfl rfl d15 ?_
   refine WO.V (run_load Ty.ag3 rfl ((hS1.cel_at 0 rfl 0).trans rfl)) ?_
   refine WO.on rfl rfl d15 ?_
   refine WO.V (run_fa 1 ⟨g2, 1, none⟩ rfl rfl) ?_
   refine WO.on rfl rfl d15 ?_
   refine WO.V (run_load Ty.ag3 rfl ((hS1.cel_at 0 rfl 1).trans rfl)) ?_
   refine WO.on rfl rfl d15 ?_
   refine WO.V (run_gtr rfl rfl) ?_
   refine WO.V (run_pickF rfl d15 rfl) ?_
   refine WO.nil (NX.go ?_)
   refine WP.condP rfl (fun g21 => ?_) (fun g21 => ?_)
   ·
    refine WP.seq (WP.region rfl ?_)
    refine WO.asg rfl rfl ?_
    refine WO.nil (NX.go (WP.ret (NX.thenRet ?_)))
    refine NX.done (l := [.tmp 2]) rfl rfl ?_
    exact ⟨congrArg (Value.int .i64) (by unfold checkB; rw [if_pos (by omega)]), hS1.drop.drop.drop.drop.drop⟩
   ·
    refine WP.skip (NX.go (WP.seq (WP.seq (WP.region rfl ?_))))
    refine WO.V (run_fa 2 ⟨g2, 2, none⟩ rfl rfl) ?_
    refine WO.V (run_load Ty.ag44 rfl ((hS1.cel_at 0 rfl 2).trans rfl)) ?_
    refine WO.V (run_len rfl Tryz.underlying44 rfl) ?_
    refine WO.mv rfl rfl ?_
    refine WO.nil (NX.go (WP.block ?_))
    have hS3 : St B (cel g2 (blc b1) 46 :: (rsA b1.rs) :: allA mrA b1.rs.l :: (dsA b1.ds) :: allA recA b1.ds.l :: _::L) w1 := hS1
    clear hS1
    refine WP.loop (α := Nat × Option MRow) (fun x => match x with | ⟨i, pv⟩ => [(1, Value.pointer (some ⟨g2, 0, none⟩)), (2, Value.int .i64 0), (23, Value.slice b1.rs.a b1.rs.l.length b1.rs.cap), (24, Value.int .i64 ((b1.rs.l.length : Nat) : Int)), (25, Value.int .i64 (i : Int))]) (fun x w => match x with | ⟨i, pv⟩ => (i ≤ b1.rs.l.length ∧ (i = 0 → pv = none) ∧ (∀ q, 0 < i → b1.rs.l[i - 1]? = some q → pv = some q) ∧ rowsGo pv (b1.rs.l.drop i) = rowsGo none b1.rs.l) ∧ St B (cel g2 (blc b1) 46 :: (rsA b1.rs) :: allA mrA b1.rs.l :: (dsA b1.ds) :: allA recA b1.ds.l :: blA b1 :: L) w) (fun x => match x with | ⟨i, pv⟩ => b1.rs.l.length - i) (0, none) ⟨⟨Nat.zero_le _, fun _ => rfl, fun q h => absurd h (by omega), rfl⟩, hS3⟩ (Sub.cons rfl (Sub.cons rfl (Sub.cons rfl (Sub.cons rfl (Sub.consE rfl (by first | rfl | first | rfl | (congr 1; omega) | (simp; done) | (simp; omega)) (Sub.nil _)))))) ?_
    rintro ⟨i, pv⟩ w4 ⟨⟨hi, hz0, hq, hgo⟩, hS4⟩
    clear hS3
    refine WP.seq (WP.region rfl ?_)
    refine WO.V (run_lss rfl rfl) ?_
    refine WO.nil (NX.go (WP.seq ?_))
    refine WP.condP rfl (fun g26 => ?_) (fun g26 => ?_)
    ·
     refine WP.skip (NX.go (WP.seq (WP.block (WP.seq ?_))))
     obtain ⟨u, hu⟩ : ∃ qq, b1.rs.l[i]? = some qq := ⟨_, List.getElem?_eq_getElem (by omega)⟩
     have hS5 := mrA_get (List.mem_of_getElem? hu) (hS4.permT [2] (L' := _::_::_::_::_::_::L) rfl)
     clear hS4
     have hzu := hz.r u (List.mem_of_getElem? hu)
     have hqe : 0 < i → ∃ q, b1.rs.l[i - 1]? = some q := fun h => ⟨_, List.getElem?_eq_getElem (by omega)⟩
     refine WP.region rfl ?_
     refine WO.mv rfl rfl ?_
     refine WO.V (run_indexAddr (q := adr b1.rs.a (i * 3)) Tryz.underlying44 Ty.sz93 rfl rfl (by omega) (by omega) ((rdH_rd (hS5.focus 4 rfl)).2.1 (by omega)) rfl) ?_
     refine WO.V (run_loadAgg (vs := (mrc u)) Ty.ag93 Ty.sz93 rfl ((rdH_rd (hS5.focus 4 rfl)).cells (by rw [flat_len mrc_len]; omega) (flat_part mrc_len hu)).1 ((rdH_rd (hS5.focus 4 rfl)).cells (by rw [flat_len mrc_len]; omega) (flat_part mrc_len hu)).2) ?_
     refine WO.alloc (l := [Value.slice none 0 0, Value.int .i64 0, Value.slice none 0 0]) hS5 Ty.zr93 rfl rfl (fun g7 w6 lg7 hS6 => ?_)
     clear hS5
     refine WO.asg rfl rfl ?_
     refine WO.store (l' := (mrc u)) 0 hS6 rfl Ty.sz93 rfl rfl rfl rfl rfl (Nat.le_of_ble_eq_true rfl) rfl (fun w8 (hS8 : St B (cel g7 (mrc u) 93 :: (labA u.lb) :: (ptsA u.pt) :: _::_::_::_::_::_::L) w8) => ?_)
     clear hS6
     refine WO.nil (NX.go (WP.block (WP.seq (WP.region rfl ?_))))
     refine WO.V (run_fa 0 ⟨g7, 0, none⟩ rfl rfl) ?_
     refine WO.V (run_load Ty.ag65 rfl ((hS8.cel_at 0 rfl 0).trans rfl)) ?_
     have hS9 := hS8.permT [1] (L' := _::_::_::_::_::_::_::_::_::L) rfl
     clear hS8
     refine WO.call rfl rfl Ty.hd94 rfl (lcheck_spec rdH_rd hzu.2.2 hzu.1 hS9) (fun v11 w10 pv11 => ?_)
     obtain ⟨rfl, hS10⟩ := pv11
     clear hS9
     refine WO.V (run_neq rfl rfl) ?_
     refine WO.asg rfl rfl ?_
     refine WO.nil (NX.go ?_)
     refine WP.condP rfl (fun g30 => ?_) (fun g30 => ?_)
     ·
      have hck : chk u.lb.l = false := chk_f g30
      refine WP.seq (WP.region rfl ?_)
      refine WO.asg rfl rfl ?_
      refine WO.nil (NX.go (WP.ret (NX.blkRet (NX.blkRet (NX.thenRet (NX.thenRet (NX.blkRet (NX.thenRet ?_))))))))
      refine NX.done (l := [.tmp 2]) rfl rfl ?_
      have hnb : ¬ (b1.first < 1 ∨ 99999999 < b1.to ∨ b1.to < b1.first) := by omega
      exact ⟨congrArg (Value.int .i64) (checkB_rows hnb (by decide) (by rw [← hgo, drop_cons hu, rowsGo_bad hck])).symm, hS10.drop.drop.drop.drop.drop.drop.drop.drop⟩
     ·
      have hck : chk u.lb.l = true := chk_t (by simpa using g30)
      refine WP.seq ?_
      have hsa : b1.rs.a.isSome = true := rd_isSome ((rdH_rd (hS10.focus 5 rfl))) (by omega)
      refine WD.start (fun w => Rd w u.lb.a u.lb.l.length 2 (u.lb.l.flatMap prc) ∧ (∀ jz, World.cell? w ⟨g7, jz, none⟩ = (mrc u)[jz]?) ∧ Rd w u.pt.a u.pt.l.length 2 (u.pt.l.flatMap ptc) ∧ (∀ jz, World.cell? w ⟨g2, jz, none⟩ = (blc b1)[jz]?) ∧ Rd w b1.rs.a b1.rs.l.length 3 (b1.rs.l.flatMap mrc)) [] (bt 21 0) Ty.mo rfl (by kernel_rfl) hS10 (fun _ h => ⟨(rdH_rd (h.focus 0 rfl)), h.cel_at 1 rfl, (rdH_rd (h.focus 2 rfl)), h.cel_at 4 rfl, (rdH_rd (h.focus 5 rfl))⟩) (fun w12 hS12 s13 => ?_)
      clear hS10
      refine DP (i := 0) t58_8 (bt 21 1) rfl rfl rfl rfl (fun w => run_move rfl) ?_
      refine DP (i := 1) t58_8 (bt 21 3) rfl rfl rfl rfl (fun w => run_gtr rfl rfl) ?_
      refine DP (i := 2) t58_8 (bt 21 7) rfl rfl rfl rfl (fun w => run_move rfl) ?_
      refine dcase (p := 0 < (i : Int)) (fun g38 d38 => ?_) (fun g38 d38 => ?_)
      ·
       obtain ⟨q, hq1⟩ := hqe (by omega)
       have hS14 := mrA_get (List.mem_of_getElem? hq1) (hS12.permT [3] (L' := _::_::_::_::_::_::_::_::_::L) rfl)
       clear hS12
       refine DPn (i := 3) t58_8 (bt 21 15) rfl rfl rfl d38 rfl (fun w => run_fa 2 ⟨g2, 2, none⟩ rfl rfl) ?_
       refine DTn (i := 4) t58_8 (bt 21 31) s13 rfl rfl rfl d38 rfl (fun w hs => run_load Ty.ag44 rfl ((hs.2.2.2.1 2).trans rfl)) ?_
       refine DPn (i := 5) t58_8 (bt 21 63) rfl rfl rfl d38 rfl (fun w => run_move rfl) ?_
       refine DPn (i := 6) t58_8 (bt 21 127) rfl rfl rfl d38 rfl (fun w => run_sub rfl rfl (IntWalk.i64_in _ (by omega))) ?_
       refine DTn (i := 7) t58_8 (bt 21 255) s13 rfl rfl rfl d38 rfl (fun w hs => run_indexAddr (q := adr b1.rs.a ((i - 1) * 3)) Tryz.underlying44 Ty.sz93 rfl rfl (by omega) (by omega) ((hs.2.2.2.2).2.1 (by omega)) (by rw [show ((i : Int) - 1).toNat = i - 1 by omega])) ?_
       refine DPn (i := 8) t58_8 (bt 21 511) rfl rfl rfl d38 rfl (fun w => run_fa 0 (adr b1.rs.a ((i - 1) * 3 + 0)) rfl (adr_add _ (by assumption) _ _)) ?_
       refine DTn (i := 9) t58_8 (bt 21 1023) s13 rfl rfl rfl d38 rfl (fun w hs => run_load Ty.ag65 rfl ((hs.2.2.2.2).cell ((flat_get mrc_len hq1 (j := 0) (by decide)).trans rfl))) ?_
       refine DPn (i := 10) t58_8 (bt 21 2047) rfl rfl rfl d38 rfl (fun w => run_fa 0 ⟨g7, 0, none⟩ rfl rfl) ?_
       refine DTn (i := 11) t58_8 (bt 21 4095) s13 rfl rfl rfl d38 rfl (fun w hs => run_load Ty.ag65 rfl ((hs.2.1 0).trans rfl)) ?_
       refine WD.one (i := 12) t58_8 (bt 21 8191) rfl (by kernel_rfl) ?_
       refine WO.on rfl rfl d38 ?_
       have hS15 := hS14.permT [0, 2] (L' := _::_::_::_::_::_::_::_::_::_::_::L) rfl
       clear hS14
       refine WO.call rfl rfl Ty.hd95 rfl (lcmp_spec rdH_rd rdH_rd (hz.r q (List.mem_of_getElem? hq1)).1 hzu.1 hS15) (fun v17 w16 pv17 => ?_)
       obtain ⟨rfl, hS16⟩ := pv17
       clear hS15
       refine WO.nil ?_
       have s18 : Rd w16 u.lb.a u.lb.l.length 2 (u.lb.l.flatMap prc) ∧ (∀ jz, World.cell? w16 ⟨g7, jz, none⟩ = (mrc u)[jz]?) ∧ Rd w16 u.pt.a u.pt.l.length 2 (u.pt.l.flatMap ptc) ∧ (∀ jz, World.cell? w16 ⟨g2, jz, none⟩ = (blc b1)[jz]?) ∧ Rd w16 b1.rs.a b1.rs.l.length 3 (b1.rs.l.flatMap mrc) := ⟨(rdH_rd (hS16.focus 1 rfl)), hS16.cel_at 4 rfl, (rdH_rd (hS16.focus 5 rfl)), hS16.cel_at 6 rfl, (rdH_rd (hS16.focus 7 rfl))⟩
       refine NX.held s18 ?_
       refine DPn (i := 13) t58_8 (bt 21 16383) rfl rfl rfl d38 rfl (fun w => run_geq rfl rfl) ?_
       refine DP (i := 14) t58_8 (bt 21 32767) rfl rfl rfl rfl (fun w => run_pickT rfl d38 rfl) ?_
       refine DP (i := 15) t58_8 (bt 21 65535) rfl rfl rfl rfl (fun w => run_move rfl) ?_
       refine dcase (p := 0 ≤ (cmpF q.lb.l u.lb.l)) (fun g51 d51 => ?_) (fun g51 d51 => ?_)
       ·
        refine DO (i := 16) t58_8 (bt 21 131071) rfl rfl rfl d51 rfl ?_
        refine DO (i := 17) t58_8 (bt 21 262143) rfl rfl rfl d51 rfl ?_
        refine DO (i := 18) t58_8 (bt 21 524287) rfl rfl rfl d51 rfl ?_
        refine DP (i := 19) t58_8 (bt 21 1048575) rfl rfl rfl rfl (fun w => run_pickT rfl d51 rfl) ?_
        refine DP (i := 20) t58_8 (bt 21 2097151) rfl rfl rfl rfl (fun w => run_assign rfl) ?_
        refine WD.done t58_8 (by kernel_rfl) ?_
        refine NX.go ?_
        refine WP.condT rfl rfl ?_
        refine WP.seq (WP.region rfl ?_)
        refine WO.asg rfl rfl ?_
        refine WO.nil (NX.go (WP.ret (NX.blkRet (NX.blkRet (NX.thenRet (NX.thenRet (NX.blkRet (NX.thenRet ?_))))))))
        refine NX.done (l := [.tmp 2]) rfl rfl ?_
        have hnb : ¬ (b1.first < 1 ∨ 99999999 < b1.to ∨ b1.to < b1.first) := by omega
        exact ⟨congrArg (Value.int .i64) (checkB_rows hnb (by decide) (by rw [← hgo, drop_cons hu, rowsGo_cmp hck (by rw [hq q (by omega) hq1]; exact decide_eq_true g51)])).symm, hS16.drop.drop.drop.drop.drop.drop.drop.drop.drop.drop⟩
       ·
        refine DTn (i := 16) t58_8 (bt 21 131071) s18 rfl rfl rfl d51 rfl (fun w hs => run_loadAgg (vs := (mrc u)) Ty.ag93 Ty.sz93 rfl rfl (cell_all (hs.2.1) 0 rfl)) ?_
        refine WD.one (i := 17) t58_8 (bt 21 262143) rfl (by kernel_rfl) ?_
        refine WO.on rfl rfl d51 ?_
        have hS19 := hS16.permT [5] (L' := _::_::_::_::_::_::_::_::_::_::_::L) rfl
        clear hS16
        refine WO.call rfl rfl Ty.hd96 rfl (rises_spec u hzu.2.1 hS19) (fun v21 w20 pv21 => ?_)
        obtain ⟨rfl, hS20⟩ := pv21
        clear hS19
        refine WO.nil ?_
        have s22 : Rd w20 u.lb.a u.lb.l.length 2 (u.lb.l.flatMap prc) ∧ (∀ jz, World.cell? w20 ⟨g7, jz, none⟩ = (mrc u)[jz]?) ∧ Rd w20 u.pt.a u.pt.l.length 2 (u.pt.l.flatMap ptc) ∧ (∀ jz, World.cell? w20 ⟨g2, jz, none⟩ = (blc b1)[jz]?) ∧ Rd w20 b1.rs.a b1.rs.l.length 3 (b1.rs.l.flatMap mrc) := ⟨(rdH_rd (hS20.focus 2 rfl)), hS20.cel_at 5 rfl, (rdH_rd (hS20.focus 0 rfl)), hS20.cel_at 6 rfl, (rdH_rd (hS20.focus 7 rfl))⟩
        refine NX.held s22 ?_
        refine DPn (i := 18) t58_8 (bt 21 524287) rfl rfl rfl d51 rfl (fun w => run_not rfl rfl) ?_
        refine DP (i := 19) t58_8 (bt 21 1048575) rfl rfl rfl rfl (fun w => run_pickF rfl d51 rfl) ?_
        refine DP (i := 20) t58_8 (bt 21 2097151) rfl rfl rfl rfl (fun w => run_assign rfl) ?_
        refine WD.done t58_8 (by kernel_rfl) ?_
        refine NX.go ?_
        refine WP.condB rfl (fun g35 => ?_) (fun g35 => ?_)
        ·
         refine WP.seq (WP.region rfl ?_)
         refine WO.asg rfl rfl ?_
         refine WO.nil (NX.go (WP.ret (NX.blkRet (NX.blkRet (NX.thenRet (NX.thenRet (NX.blkRet (NX.thenRet ?_))))))))
         refine NX.done (l := [.tmp 2]) rfl rfl ?_
         have hnb : ¬ (b1.first < 1 ∨ 99999999 < b1.to ∨ b1.to < b1.first) := by omega
         have hcm : cmpV pv u = false := by rw [hq q (by omega) hq1]; exact decide_eq_false g51
         have hpb : ptsOk u.last none u.pt.l = false := by simpa using g35
         exact ⟨congrArg (Value.int .i64) (checkB_rows hnb (by decide) (by rw [← hgo, drop_cons hu, rowsGo_pts hck hcm hpb])).symm, hS20.drop.drop.drop.drop.drop.drop.drop.drop.drop.drop⟩
        ·
         refine WP.skip (NX.blk (NX.blk (NX.go ?_)))
         have hcm : cmpV pv u = false := by rw [hq q (by omega) hq1]; exact decide_eq_false g51
         have hpo : ptsOk u.last none u.pt.l = true := by simpa using g35
         refine WP.region rfl ?_
         refine WO.V (run_add rfl rfl (IntWalk.i64_in _ (by omega))) ?_
         refine WO.mv rfl rfl ?_
         refine WO.nil ?_
         exact NX.again (i + 1, some u) ⟨⟨by omega, fun h => by omega, fun q _ h => by rw [Nat.add_sub_cancel, hu] at h; cases h; rfl, by rw [← hgo, drop_cons hu, rowsGo_go hck hcm hpo]⟩, ((hS20.mask [false, false, false, false, true, false] (L' := _::_::_::_::_::_::L) rfl).permT [1, 1] (L' := _::_::_::_::_::_::L) rfl)⟩ (by show b1.rs.l.length - (i + 1) < b1.rs.l.length - i; omega) (Sub.cons rfl (Sub.cons rfl (Sub.cons rfl (Sub.cons rfl (Sub.consE rfl (by congr 1) (Sub.nil _))))))
      ·
       refine DO (i := 3) t58_8 (bt 21 15) rfl rfl rfl d38 rfl ?_
       refine DO (i := 4) t58_8 (bt 21 31) rfl rfl rfl d38 rfl ?_
       refine DO (i := 5) t58_8 (bt 21 63) rfl rfl rfl d38 rfl ?_
       refine DO (i := 6) t58_8 (bt 21 127) rfl rfl rfl d38 rfl ?_
       refine DO (i := 7) t58_8 (bt 21 255) rfl rfl rfl d38 rfl ?_
       refine DO (i := 8) t58_8 (bt 21 511) rfl rfl rfl d38 rfl ?_
       refine DO (i := 9) t58_8 (bt 21 1023) rfl rfl rfl d38 rfl ?_
       refine DO (i := 10) t58_8 (bt 21 2047) rfl rfl rfl d38 rfl ?_
       refine DO (i := 11) t58_8 (bt 21 4095) rfl rfl rfl d38 rfl ?_
       refine DO (i := 12) t58_8 (bt 21 8191) rfl rfl rfl d38 rfl ?_
       refine DO (i := 13) t58_8 (bt 21 16383) rfl rfl rfl d38 rfl ?_
       refine DP (i := 14) t58_8 (bt 21 32767) rfl rfl rfl rfl (fun w => run_pickF rfl d38 rfl) ?_
       refine DP (i := 15) t58_8 (bt 21 65535) rfl rfl rfl rfl (fun w => run_move rfl) ?_
       refine DTn (i := 16) t58_8 (bt 21 131071) s13 rfl rfl rfl rfl rfl (fun w hs => run_loadAgg (vs := (mrc u)) Ty.ag93 Ty.sz93 rfl rfl (cell_all (hs.2.1) 0 rfl)) ?_
       refine WD.one (i := 17) t58_8 (bt 21 262143) rfl (by kernel_rfl) ?_
       refine WO.on rfl rfl rfl ?_
       have hS23 := hS12.permT [2] (L' := _::_::_::_::_::_::_::_::_::L) rfl
       clear hS12
       refine WO.call rfl rfl Ty.hd96 rfl (rises_spec u hzu.2.1 hS23) (fun v25 w24 pv25 => ?_)
       obtain ⟨rfl, hS24⟩ := pv25
       clear hS23
       refine WO.nil ?_
       have s26 : Rd w24 u.lb.a u.lb.l.length 2 (u.lb.l.flatMap prc) ∧ (∀ jz, World.cell? w24 ⟨g7, jz, none⟩ = (mrc u)[jz]?) ∧ Rd w24 u.pt.a u.pt.l.length 2 (u.pt.l.flatMap ptc) ∧ (∀ jz, World.cell? w24 ⟨g2, jz, none⟩ = (blc b1)[jz]?) ∧ Rd w24 b1.rs.a b1.rs.l.length 3 (b1.rs.l.flatMap mrc) := ⟨(rdH_rd (hS24.focus 1 rfl)), hS24.cel_at 2 rfl, (rdH_rd (hS24.focus 0 rfl)), hS24.cel_at 4 rfl, (rdH_rd (hS24.focus 5 rfl))⟩
       refine NX.held s26 ?_
       refine DPn (i := 18) t58_8 (bt 21 524287) rfl rfl rfl rfl rfl (fun w => run_not rfl rfl) ?_
       refine DP (i := 19) t58_8 (bt 21 1048575) rfl rfl rfl rfl (fun w => run_pickF rfl rfl rfl) ?_
       refine DP (i := 20) t58_8 (bt 21 2097151) rfl rfl rfl rfl (fun w => run_assign rfl) ?_
       refine WD.done t58_8 (by kernel_rfl) ?_
       refine NX.go ?_
       refine WP.condB rfl (fun g35 => ?_) (fun g35 => ?_)
       ·
        refine WP.seq (WP.region rfl ?_)
        refine WO.asg rfl rfl ?_
        refine WO.nil (NX.go (WP.ret (NX.blkRet (NX.blkRet (NX.thenRet (NX.thenRet (NX.blkRet (NX.thenRet ?_))))))))
        refine NX.done (l := [.tmp 2]) rfl rfl ?_
        have hnb : ¬ (b1.first < 1 ∨ 99999999 < b1.to ∨ b1.to < b1.first) := by omega
        have hcm : cmpV pv u = false := by rw [hz0 (by omega)]; rfl
        have hpb : ptsOk u.last none u.pt.l = false := by simpa using g35
        exact ⟨congrArg (Value.int .i64) (checkB_rows hnb (by decide) (by rw [← hgo, drop_cons hu, rowsGo_pts hck hcm hpb])).symm, hS24.drop.drop.drop.drop.drop.drop.drop.drop⟩
       ·
        refine WP.skip (NX.blk (NX.blk (NX.go ?_)))
        have hcm : cmpV pv u = false := by rw [hz0 (by omega)]; rfl
        have hpo : ptsOk u.last none u.pt.l = true := by simpa using g35
        refine WP.region rfl ?_
        refine WO.V (run_add rfl rfl (IntWalk.i64_in _ (by omega))) ?_
        refine WO.mv rfl rfl ?_
        refine WO.nil ?_
        exact NX.again (i + 1, some u) ⟨⟨by omega, fun h => by omega, fun q _ h => by rw [Nat.add_sub_cancel, hu] at h; cases h; rfl, by rw [← hgo, drop_cons hu, rowsGo_go hck hcm hpo]⟩, (hS24.permT [0, 0, 0, 1, 1] (L' := _::_::_::_::_::_::_::_::_::L) rfl).drop.drop.drop⟩ (by show b1.rs.l.length - (i + 1) < b1.rs.l.length - i; omega) (Sub.cons rfl (Sub.cons rfl (Sub.cons rfl (Sub.cons rfl (Sub.consE rfl (by congr 1) (Sub.nil _))))))
    ·
     refine WP.exit (NX.thenExit (NX.thenExit ?_))
     refine NX.blkExit ?_
     refine NX.go (WP.seq (WP.seq (WP.region rfl ?_)))
     refine WO.V (run_fa 3 ⟨g2, 3, none⟩ rfl rfl) ?_
     refine WO.V (run_load Ty.ag23 rfl ((hS4.cel_at 0 rfl 3).trans rfl)) ?_
     refine WO.V (run_len rfl Tryz.underlying23 rfl) ?_
     refine WO.mv rfl rfl ?_
     refine WO.nil (NX.go (WP.block ?_))
     have hS27 : St B (_::_::_::_::_::_::L) w4 := (hS4.permT [0, 2, 2] (L' := _::_::_::_::_::_::L) rfl)
     clear hS4
     refine WP.loop (α := Nat) (fun x => match x with | j => [(1, Value.pointer (some ⟨g2, 0, none⟩)), (2, Value.int .i64 0), (58, Value.slice b1.ds.a b1.ds.l.length b1.ds.cap), (59, Value.int .i64 ((b1.ds.l.length : Nat) : Int)), (60, Value.int .i64 (j : Int))]) (fun x w => match x with | j => (j ≤ b1.ds.l.length ∧ delsOk (b1.ds.l.drop j) = delsOk b1.ds.l) ∧ St B (cel g2 (blc b1) 46 :: (dsA b1.ds) :: allA recA b1.ds.l :: (rsA b1.rs) :: allA mrA b1.rs.l :: blA b1 :: L) w) (fun x => match x with | j => b1.ds.l.length - j) 0 ⟨⟨Nat.zero_le _, rfl⟩, hS27⟩ (Sub.cons rfl (Sub.cons rfl (Sub.cons rfl (Sub.cons rfl (Sub.consE rfl (by first | rfl | first | rfl | (congr 1; omega) | (simp; done) | (simp; omega)) (Sub.nil _)))))) ?_
     rintro j w28 ⟨⟨hj, hdgo⟩, hS28⟩
     clear hS27
     refine WP.seq (WP.region rfl ?_)
     refine WO.V (run_lss rfl rfl) ?_
     refine WO.nil (NX.go (WP.seq ?_))
     refine WP.condP rfl (fun g61 => ?_) (fun g61 => ?_)
     ·
      refine WP.skip (NX.go (WP.seq (WP.block (WP.seq ?_))))
      obtain ⟨d1, hd1⟩ : ∃ qq, b1.ds.l[j]? = some qq := ⟨_, List.getElem?_eq_getElem (by omega)⟩
      refine WP.region rfl ?_
      refine WO.V (run_indexAddr (q := adr b1.ds.a (j * 5)) Tryz.underlying23 Ty.sz33 rfl rfl (by omega) (by omega) ((rdH_rd (hS28.focus 1 rfl)).2.1 (by omega)) rfl) ?_
      refine WO.V (run_loadAgg (vs := (rcc d1)) Ty.ag33 Ty.sz33 rfl ((rdH_rd (hS28.focus 1 rfl)).cells (by rw [flat_len rcc_len]; omega) (flat_part rcc_len hd1)).1 ((rdH_rd (hS28.focus 1 rfl)).cells (by rw [flat_len rcc_len]; omega) (flat_part rcc_len hd1)).2) ?_
      refine WO.alloc (l := [Value.int .i64 0, Value.slice none 0 0, Value.slice none 0 0, Value.int .i64 0, Value.int .i64 0]) hS28 Ty.zr33 rfl rfl (fun g31 w29 lg31 hS29 => ?_)
      clear hS28
      refine WO.store (l' := (rcc d1)) 0 hS29 rfl Ty.sz33 rfl rfl rfl rfl rfl (Nat.le_of_ble_eq_true rfl) rfl (fun w32 (hS32 : St B (cel g31 (rcc d1) 33 :: _::_::_::_::_::_::L) w32) => ?_)
      clear hS29
      refine WO.nil (NX.go (WP.seq (WP.region rfl ?_)))
      refine WO.V (run_fa 0 ⟨g31, 0, none⟩ rfl rfl) ?_
      refine WO.V (run_load Ty.ag3 rfl ((hS32.cel_at 0 rfl 0).trans rfl)) ?_
      refine WO.V (run_neq rfl rfl) ?_
      refine WO.mv rfl rfl ?_
      refine dcase (p := ¬ d1.k = 2) (fun g67 d67 => ?_) (fun g67 d67 => ?_)
      ·
       refine WO.off rfl rfl d67 rfl ?_
       refine WO.off rfl rfl d67 rfl ?_
       refine WO.off rfl rfl d67 rfl ?_
       refine WO.V (run_pickT rfl d67 rfl) ?_
       refine WO.nil (NX.go ?_)
       refine WP.condT rfl rfl ?_
       refine WP.seq (WP.region rfl ?_)
       refine WO.asg rfl rfl ?_
       refine WO.nil (NX.go (WP.ret (NX.blkRet (NX.thenRet (NX.thenRet (NX.blkRet (NX.thenRet ?_)))))))
       refine NX.done (l := [.tmp 2]) rfl rfl ?_
       have hnb : ¬ (b1.first < 1 ∨ 99999999 < b1.to ∨ b1.to < b1.first) := by omega
       have hr0 : rowsGo none b1.rs.l = 0 := by rw [← hgo, List.drop_of_length_le (by omega)]; rfl
       have hdb : delsOk b1.ds.l = false := by rw [← hdgo, drop_cons hd1]; simp [delsOk, g67] <;> intros <;> omega
       exact ⟨congrArg (Value.int .i64) (by rw [checkB_dels hnb hr0, hdb]; rfl), hS32.drop.drop.drop.drop.drop.drop⟩
      ·
       refine WO.on rfl rfl d67 ?_
       refine WO.V (run_loadAgg (vs := (rcc d1)) Ty.ag33 Ty.sz33 rfl rfl (cell_all (hS32.cel_at 0 rfl) 0 rfl)) ?_
       refine WO.on rfl rfl d67 ?_
       have hS33 := allA_get recA_pers (List.mem_of_getElem? hd1) (hS32.permT [3] (L' := _::_::_::_::_::_::_::L) rfl)
       clear hS32
       refine WO.call rfl rfl Ty.hd70 rfl (rec_check d1 (hz.d d1 (List.mem_of_getElem? hd1)) hS33) (fun v35 w34 pv35 => ?_)
       obtain ⟨rfl, hS34⟩ := pv35
       clear hS33
       refine WO.on rfl rfl d67 ?_
       refine WO.V (run_neq rfl rfl) ?_
       refine WO.V (run_pickF rfl d67 rfl) ?_
       refine WO.nil (NX.go ?_)
       refine WP.condP rfl (fun g71 => ?_) (fun g71 => ?_)
       ·
        refine WP.seq (WP.region rfl ?_)
        refine WO.asg rfl rfl ?_
        refine WO.nil (NX.go (WP.ret (NX.blkRet (NX.thenRet (NX.thenRet (NX.blkRet (NX.thenRet ?_)))))))
        refine NX.done (l := [.tmp 2]) rfl rfl ?_
        have hnb : ¬ (b1.first < 1 ∨ 99999999 < b1.to ∨ b1.to < b1.first) := by omega
        have hr0 : rowsGo none b1.rs.l = 0 := by rw [← hgo, List.drop_of_length_le (by omega)]; rfl
        have hdb : delsOk b1.ds.l = false := by rw [← hdgo, drop_cons hd1]; simp [delsOk, g67, g71] <;> intros <;> omega
        exact ⟨congrArg (Value.int .i64) (by rw [checkB_dels hnb hr0, hdb]; rfl), hS34.drop.drop.drop.drop.drop.drop.drop⟩
       ·
        refine WP.skip (NX.blk (NX.go (WP.region rfl ?_)))
        refine WO.V (run_add rfl rfl (IntWalk.i64_in _ (by omega))) ?_
        refine WO.mv rfl rfl ?_
        refine WO.nil ?_
        exact NX.again (j + 1) ⟨⟨by omega, by rw [← hdgo, drop_cons hd1]; simp [delsOk, g67, g71] <;> intros <;> omega⟩, ((hS34.mask [false, true, false] (L' := _::_::_::_::_::_::L) rfl).permT [1, 1] (L' := _::_::_::_::_::_::L) rfl)⟩ (by show b1.ds.l.length - (j + 1) < b1.ds.l.length - j; omega) (Sub.cons rfl (Sub.cons rfl (Sub.cons rfl (Sub.cons rfl (Sub.consE rfl (by congr 1) (Sub.nil _))))))
     ·
      refine WP.exit (NX.thenExit (NX.thenExit ?_))
      refine NX.blkExit ?_
      refine NX.go (WP.seq (WP.region rfl ?_))
      refine WO.asg rfl rfl ?_
      refine WO.nil (NX.go (WP.ret ?_))
      refine NX.done (l := [.tmp 2]) rfl rfl ?_
      have hnb : ¬ (b1.first < 1 ∨ 99999999 < b1.to ∨ b1.to < b1.first) := by omega
      have hr0 : rowsGo none b1.rs.l = 0 := by rw [← hgo, List.drop_of_length_le (by omega)]; rfl
      exact ⟨congrArg (Value.int .i64) (by rw [checkB_dels hnb hr0, ← hdgo, List.drop_of_length_le (by omega)]; rfl), hS28.drop.drop.drop.drop.drop⟩
end Go.Proofs.YtidoidoelgfnaaaGreatDoor.SL

/- Greatest times are added: the program. -/
namespace Go.Proofs.YtidoidoelgfnaaaGreatDoor.SL
open Go.RowKit Go.Proofs.YtidoidoelgfnaaaGreatDoor
open Go.Proofs.YtidoidoelgfnaaaGreatDoorW.PrintLast (rtab opsOf)
set_option linter.unusedVariables false
set_option linter.unusedSimpArgs false

def rowsLU : List RowP → List RowP → List RowP
  | [], S => S
  | r :: l, S => rowsLU l (updF S r.lb r.last [])
theorem rowsLU_perm : ∀ {l R A : List RowP}, SrtR A → R.Perm A → (rowsLU l R).Perm (rowsL l A)
  | [], _, _, _, h => h
  | r :: l, R, A, hs, h => by rw [rowsLU, rowsL]; exact rowsLU_perm (addF_srt hs) (updF_perm hs h _ _ _)
def lastG : List Nat → List MRow → List Pr → Int
  | _ :: gs, r :: S, lb => if r.lb.l = lb then r.last else lastG gs S lb
  | _, _, _ => 0
theorem lastG_at {lb : List Pr} {g : Nat} : ∀ {gs : List Nat} {S : List MRow}, findG gs S lb = some g → ∃ (j : Nat) (r : MRow), gs[j]? = some g ∧ S[j]? = some r ∧ r.lb.l = lb ∧ r.last = lastG gs S lb
  | [], S, h => by simp [findG] at h
  | _ :: _, [], h => by simp [findG] at h
  | k :: gs, r :: S, h => by
    rw [findG] at h
    by_cases e : r.lb.l = lb
    · rw [if_pos e] at h; cases h
      exact ⟨0, r, rfl, rfl, e, by rw [lastG, if_pos e]⟩
    · rw [if_neg e] at h
      obtain ⟨j, r', h1, h2, h3, h4⟩ := lastG_at h
      exact ⟨j + 1, r', by simpa using h1, by simpa using h2, h3, by rw [lastG, if_neg e]; exact h4⟩
theorem sq_last {B w : World} {L : List HP} {gs : List Nat} {S : List MRow} {lb : List Pr} {g : Nat} (h : St B (sqA (rwA 93 103) gs S :: L) w) (hf : findG gs S lb = some g) : World.cell? w ⟨g, 1, none⟩ = some (Value.int .i64 (lastG gs S lb)) := by
  obtain ⟨j, r, h1, h2, _, h4⟩ := lastG_at hf
  obtain ⟨g', h5, h6⟩ := sqA_pick h2 h
  have e : g' = g := by rw [h1] at h5; exact (Option.some.inj h5).symm
  subst e
  rw [← h4]
  exact ((rw_open h6).cel_at 0 rfl 1).trans rfl
theorem clash_none {gs : List Nat} {S : List MRow} {A : List RowP} {u : MRow} (hp : (S.map MRow.p).Perm A) (hl : gs.length = S.length) (h : findG gs S u.lb.l = none) : clashP A u.p = false := by
  unfold clashP
  rw [List.any_eq_false]
  intro q hq hc
  obtain ⟨r, hr, rfl⟩ := List.mem_map.1 (hp.symm.subset hq)
  simp only [Bool.and_eq_true, decide_eq_true_eq] at hc
  exact findG_none hl h r hr hc.1
theorem clash_some {gs : List Nat} {S : List MRow} {A : List RowP} {u : MRow} {g : Nat} {p0 : Pt} (hp : (S.map MRow.p).Perm A) (hs : SrtR A) (h : findG gs S u.lb.l = some g) (h0 : u.pt.l[0]? = some p0) : clashP A u.p = decide (p0.t ≤ lastG gs S u.lb.l) := by
  obtain ⟨j, r, h1, h2, h3, h4⟩ := lastG_at h
  rw [← h4]
  have hhd : u.p.pts.head? = some p0 := by show u.pt.l.head? = _; rw [List.head?_eq_getElem?]; exact h0
  have hm : r.p ∈ A := hp.subset (List.mem_map.2 ⟨r, List.mem_of_getElem? h2, rfl⟩)
  unfold clashP
  rw [hhd]
  apply Bool.eq_iff_iff.2
  rw [List.any_eq_true, decide_eq_true_eq]
  constructor
  · rintro ⟨q, hq, hc⟩
    simp only [Bool.and_eq_true, decide_eq_true_eq] at hc
    have : q = r.p := srt_one hs hq hm (hc.1.trans h3.symm)
    rw [this] at hc; exact hc.2
  · intro hle
    exact ⟨r.p, hm, by simp only [Bool.and_eq_true, decide_eq_true_eq]; exact ⟨h3, hle⟩⟩
theorem t60_5 : rtab .any (opsOf Tryz.f60 5) = (true, [([], []), ([], []), ([1], [1]), ([2], [2]), ([3], [3]), ([], []), ([5], [5]), ([4, 6], [4, 6]), ([0, 0, 1, 2, 3, 4, 5, 6, 7], [0]), ([8, 0, 1, 2, 3, 4, 5, 6, 7], [8]), ([9, 7, 0, 1, 2, 3, 4, 5, 6, 7], [7, 9])]) := by kernel_rfl
theorem padd_spec {B w : World} {L : List HP} {m n0 M : Nat} {gs : List Nat} {S : List MRow} {R0 : List RowP} (b1 : BlkV) (hnr : b1.rs.l.length ≤ 2513169434916) (hck : ∀ r ∈ b1.rs.l, chk r.lb.l = true) (hch : ∀ r ∈ S, chk r.lb.l = true) (hR0 : S.map MRow.p = R0) (hn0 : S.length ≤ n0) (hSp : ∀ r ∈ S, r.pt.l.length ≤ M) (hS : St B (mpS m (entR gs S) :: sqA (rwA 93 103) gs S :: (rsA b1.rs) :: allA mrA b1.rs.l :: L) w) : Does Tryz.prog 60 [Value.map (some m), Value.agg #[Value.int .i64 b1.first, Value.int .i64 b1.to, Value.slice b1.rs.a b1.rs.l.length b1.rs.cap, Value.slice b1.ds.a b1.ds.l.length b1.ds.cap]] w (fun v w1 => ∃ (gs1 : List Nat) (S1 : List MRow), v = .tuple #[] ∧ S1.map MRow.p = rowsLU (b1.rs.l.map MRow.p) R0 ∧ (∀ r ∈ S1, chk r.lb.l = true) ∧ S1.length ≤ n0 + b1.rs.l.length ∧ (∀ r ∈ S1, r.pt.l.length ≤ M) ∧ St B (mpS m (entR gs1 S1) :: sqA (rwA 93 103) gs1 S1 :: (rsA b1.rs) :: allA mrA b1.rs.l :: L) w1) := by
 refine enter (n := 28) Tryz.func60 rfl rfl [Value.map (some m), Value.agg #[Value.int .i64 b1.first, Value.int .i64 b1.to, Value.slice b1.rs.a b1.rs.l.length b1.rs.cap, Value.slice b1.ds.a b1.ds.l.length b1.ds.cap]] rfl ?_
 refine WP.seq (WP.region rfl ?_)
 refine WO.box (l := (blc b1)) hS rfl rfl rfl (fun g2 w1 lg2 hS1 => ?_)
 clear hS
 refine WO.nil (NX.go (WP.seq (WP.region rfl ?_)))
 refine WO.V (run_fa 2 ⟨g2, 2, none⟩ rfl rfl) ?_
 refine WO.V (run_load Ty.ag44 rfl ((hS1.cel_at 0 rfl 2).trans rfl)) ?_
 refine WO.V (run_len rfl Tryz.underlying44 rfl) ?_
 refine WO.mv rfl rfl ?_
 refine WO.nil (NX.go (WP.block ?_))
 have hS3 : St B (_::_::_::_::cel g2 (blc b1) 46 :: L) w1 := (hS1.permT [1, 1, 1, 1] (L' := _::_::_::_::_::L) rfl)
 clear hS1
 refine WP.loop (α := Nat × List Nat × List MRow) (fun x => match x with | ⟨k, gs, S⟩ => [(0, Value.map (some m)), (3, Value.pointer (some ⟨g2, 0, none⟩)), (8, Value.slice b1.rs.a b1.rs.l.length b1.rs.cap), (9, Value.int .i64 ((b1.rs.l.length : Nat) : Int)), (10, Value.int .i64 (k : Int))]) (fun x w => match x with | ⟨k, gs, S⟩ => (k ≤ b1.rs.l.length ∧ rowsLU ((b1.rs.l.drop k).map MRow.p) (S.map MRow.p) = rowsLU (b1.rs.l.map MRow.p) R0 ∧ (∀ r ∈ S, chk r.lb.l = true) ∧ S.length ≤ n0 + k ∧ (∀ r ∈ S, r.pt.l.length ≤ M)) ∧ St B (mpS m (entR gs S) :: sqA (rwA 93 103) gs S :: (rsA b1.rs) :: allA mrA b1.rs.l :: cel g2 (blc b1) 46 :: L) w) (fun x => match x with | ⟨k, gs, S⟩ => b1.rs.l.length - k) (0, gs, S) ⟨⟨Nat.zero_le _, by rw [hR0]; rfl, hch, by omega, hSp⟩, hS3⟩ (Sub.cons rfl (Sub.cons rfl (Sub.cons rfl (Sub.cons rfl (Sub.consE rfl (by first | rfl | first | rfl | (congr 1; omega) | (simp; done) | (simp; omega)) (Sub.nil _)))))) ?_
 rintro ⟨k, gs, S⟩ w4 ⟨⟨hk, hgo, hch, hSn, hSp⟩, hS4⟩
 clear hS3
 refine WP.seq (WP.region rfl ?_)
 refine WO.V (run_lss rfl rfl) ?_
 refine WO.nil (NX.go (WP.seq ?_))
 refine WP.condP rfl (fun g11 => ?_) (fun g11 => ?_)
 ·
  refine WP.skip (NX.go (WP.seq (WP.block (WP.seq ?_))))
  obtain ⟨u, hu⟩ : ∃ qq, b1.rs.l[k]? = some qq := ⟨_, List.getElem?_eq_getElem (by omega)⟩
  refine WP.region rfl ?_
  refine WO.V (run_indexAddr (q := adr b1.rs.a (k * 3)) Tryz.underlying44 Ty.sz93 rfl rfl (by omega) (by omega) ((rdH_rd (hS4.focus 2 rfl)).2.1 (by omega)) rfl) ?_
  refine WO.V (run_loadAgg (vs := (mrc u)) Ty.ag93 Ty.sz93 rfl ((rdH_rd (hS4.focus 2 rfl)).cells (by rw [flat_len mrc_len]; omega) (flat_part mrc_len hu)).1 ((rdH_rd (hS4.focus 2 rfl)).cells (by rw [flat_len mrc_len]; omega) (flat_part mrc_len hu)).2) ?_
  refine WO.alloc (l := [Value.slice none 0 0, Value.int .i64 0, Value.slice none 0 0]) hS4 Ty.zr93 rfl rfl (fun g6 w5 lg6 hS5 => ?_)
  clear hS4
  refine WO.store (l' := (mrc u)) 0 hS5 rfl Ty.sz93 rfl rfl rfl rfl rfl (Nat.le_of_ble_eq_true rfl) rfl (fun w7 (hS7 : St B (cel g6 (mrc u) 93 :: _::_::_::_::_::L) w7) => ?_)
  clear hS5
  refine WO.nil (NX.go (WP.seq ?_))
  have hS8 := mrA_get (List.mem_of_getElem? hu) (hS7.permT [4] (L' := _::_::_::_::_::_::L) rfl)
  clear hS7
  refine WP.region rfl ?_
  refine WO.mv rfl rfl ?_
  refine WO.V (run_loadAgg (vs := (mrc u)) Ty.ag93 Ty.sz93 rfl rfl (cell_all (hS8.cel_at 3 rfl) 0 rfl)) ?_
  have hS9 := hS8.permT [4, 4] (L' := _::_::_::_::_::_::_::_::L) rfl
  clear hS8
  refine WO.call rfl rfl Ty.hd87 rfl (of_spec u (hck u (List.mem_of_getElem? hu)) hch hS9) (fun v11 w10 pv11 => ?_)
  obtain ⟨gq, j0, gs1, S1, row, rfl, hR, hS10⟩ := pv11
  clear hS9
  refine WO.asg rfl rfl ?_
  refine WO.nil (NX.go ?_)
  have hS12 : St B (cel gq (mrc row) 93 :: (labA row.lb) :: own row.pt.a row.pt.l.length row.pt.cap 103 2 (row.pt.l.flatMap ptc) :: sqBut (rwA 93 103) j0 gs1 S1 :: _::_::_::_::_::_::_::L) w10 := rw_open hS10
  clear hS10
  refine WD.start (fun w => (∀ jz, World.cell? w ⟨gq, jz, none⟩ = (mrc row)[jz]?) ∧ (∀ jz, World.cell? w ⟨g6, jz, none⟩ = (mrc u)[jz]?)) [10] (bt 11 0) Ty.mo rfl (by kernel_rfl) hS12 (fun _ h => ⟨h.cel_at 0 rfl, h.cel_at 8 rfl⟩) (fun w13 hS13 s14 => ?_)
  clear hS12
  refine DP (i := 0) t60_5 (bt 11 1) rfl rfl rfl rfl (fun w => run_move rfl) ?_
  refine DP (i := 1) t60_5 (bt 11 3) rfl rfl rfl rfl (fun w => run_move rfl) ?_
  refine DP (i := 2) t60_5 (bt 11 7) rfl rfl rfl rfl (fun w => run_nilCheck rfl) ?_
  refine DP (i := 3) t60_5 (bt 11 15) rfl rfl rfl rfl (fun w => run_fa 1 ⟨gq, 1, none⟩ rfl rfl) ?_
  refine DT (i := 4) t60_5 (bt 11 31) s14 rfl rfl rfl rfl (fun w hs => run_load Ty.ag2 rfl ((hs.1 1).trans rfl)) ?_
  refine DP (i := 5) t60_5 (bt 11 63) rfl rfl rfl rfl (fun w => run_fa 1 ⟨g6, 1, none⟩ rfl rfl) ?_
  refine DT (i := 6) t60_5 (bt 11 127) s14 rfl rfl rfl rfl (fun w hs => run_load Ty.ag2 rfl ((hs.2 1).trans rfl)) ?_
  refine DP (i := 7) t60_5 (bt 11 255) rfl rfl rfl rfl (fun w => run_max rfl (maxI _ _)) ?_
  refine DP (i := 8) t60_5 (bt 11 511) rfl rfl rfl rfl (fun w => run_nilCheck rfl) ?_
  refine DP (i := 9) t60_5 (bt 11 1023) rfl rfl rfl rfl (fun w => run_fa 1 ⟨gq, 1, none⟩ rfl rfl) ?_
  refine WD.one (i := 10) t60_5 (bt 11 2047) rfl (by kernel_rfl) ?_
  refine WO.store (l' := [Value.slice row.lb.a row.lb.l.length row.lb.cap, Value.int .i64 (max row.last u.last), Value.slice row.pt.a row.pt.l.length row.pt.cap]) 0 hS13 rfl Ty.sz2 rfl rfl rfl rfl rfl (Nat.le_of_ble_eq_true rfl) rfl (fun w15 (hS15 : St B (cel gq [Value.slice row.lb.a row.lb.l.length row.lb.cap, Value.int .i64 (max row.last u.last), Value.slice row.pt.a row.pt.l.length row.pt.cap] 93 :: _::_::_::_::_::_::_::_::_::_::L) w15) => ?_)
  clear hS13
  refine WO.nil ?_
  refine NX.last (by decide) ?_
  refine WD.done t60_5 (by kernel_rfl) ?_
  refine NX.blk (NX.go ?_)
  have hS16 := rw_shut (tR := 93) (tP := 103) (g := gq) (r := (⟨row.lb, max row.last u.last, row.pt⟩ : MRow)) hS15
  clear hS15
  have hS17 := sqA_back hR.hg hS16
  clear hS16
  have hS18 : St B (sqA (rwA 93 103) gs1 (S1.set j0 (⟨row.lb, max row.last u.last, row.pt⟩ : MRow)) :: mpS m (entR gs1 (S1.set j0 (⟨row.lb, max row.last u.last, row.pt⟩ : MRow))) :: (labA u.lb) :: (ptsA u.pt) :: allA mrA b1.rs.l :: cel g6 (mrc u) 93 :: (rsA b1.rs) :: cel g2 (blc b1) 46 :: L) w15 := by rw [entR_set (r' := (⟨row.lb, max row.last u.last, row.pt⟩ : MRow)) hR.hr rfl]; exact hS17
  clear hS17
  refine WP.region rfl ?_
  refine WO.V (run_add rfl rfl (IntWalk.i64_in _ (by omega))) ?_
  refine WO.mv rfl rfl ?_
  refine WO.nil ?_
  exact NX.again (k + 1, gs1, S1.set j0 (⟨row.lb, max row.last u.last, row.pt⟩ : MRow)) ⟨⟨by omega, by rw [drop_cons hu, List.map_cons, rowsLU] at hgo; rw [hR.hupd _ [] (List.append_nil _).symm]; exact hgo, fun r hr => by rcases List.mem_or_eq_of_mem_set hr with hr | hr; (· exact hR.hchk r hr); (· rw [hr]; show chk row.lb.l = true; exact hR.hchk row (List.mem_of_getElem? hR.hr)), by rw [List.length_set]; have := hR.hlen; omega, fun r hr => by rcases List.mem_or_eq_of_mem_set hr with hr | hr; (· exact hR.hpt M hSp r hr); (· rw [hr]; exact hR.hpt M hSp row (List.mem_of_getElem? hR.hr))⟩, ((hS18.mask [true, true, false, false, true, false] (L' := _::_::_::_::_::L) rfl).permT [1, 0, 1] (L' := _::_::_::_::_::L) rfl)⟩ (by show b1.rs.l.length - (k + 1) < b1.rs.l.length - k; omega) (Sub.cons rfl (Sub.cons rfl (Sub.cons rfl (Sub.cons rfl (Sub.consE rfl (by congr 1) (Sub.nil _))))))
 ·
  refine WP.exit (NX.thenExit (NX.thenExit ?_))
  refine NX.blkExit ?_
  refine NX.ended (l := []) rfl rfl ?_
  exact ⟨gs, S, rfl, by rw [← hgo, List.drop_of_length_le (by omega)]; rfl, hch, by omega, hSp, (hS4.mask [true, true, true, true, false] (L' := _::_::_::_::L) rfl)⟩
end Go.Proofs.YtidoidoelgfnaaaGreatDoor.SL

/- Blocks that follow one another: the program. -/
namespace Go.Proofs.YtidoidoelgfnaaaGreatDoor.SL
open Go.RowKit Go.Proofs.YtidoidoelgfnaaaGreatDoor
open Go.Proofs.YtidoidoelgfnaaaGreatDoorW.PrintLast (rtab opsOf)
set_option linter.unusedVariables false
set_option linter.unusedSimpArgs false

theorem ptr_find {o : Option Nat} {g : Nat} (h : o = some g) : some (Value.pointer (o.map fun g => (⟨g, 0, none⟩ : Addr))) = some (Value.pointer (some ⟨g, 0, none⟩)) := by rw [h]; rfl
theorem t21_21 : rtab .any (opsOf Tryz.f21 21) = (true, [([], []), ([0], [0]), ([1], [1]), ([2], [2]), ([3, 2], [2, 3]), ([4, 2], [2, 4]), ([5, 2], [2, 5]), ([2, 6], [2, 6]), ([7, 2], [7]), ([8], [8]), ([9, 8], [8, 9]), ([10, 8], [8, 10]), ([11, 8], [8, 11]), ([12, 8], [8, 12]), ([8], [8]), ([14, 8], [8, 14]), ([15, 8], [8, 15]), ([16, 8], [8, 16]), ([13, 17, 8], [8, 13, 17]), ([8, 18], [8, 18])]) := by kernel_rfl
theorem pfollow_spec {B w : World} {L : List HP} {X : HP} {a : Option Addr} {cap : Nat} {bs : List BlkV} (hX : ∀ {L : List HP} {w : World}, St B (X :: L) w → Rd w a bs.length 4 (bs.flatMap blc)) (hbz : ∀ b ∈ bs, MzB b) (hw8 : bs.length ≤ 64) (hwg : ∀ b ∈ bs, wgt b ≤ 1000000) (hS : St B (X :: allA blA bs :: L) w) : Does Tryz.prog 21 [Value.slice a bs.length cap] w (fun v w1 => v = .int .i64 (followV bs) ∧ St B (X :: allA blA bs :: L) w1) := by
 refine enter (n := 82) Tryz.func21 rfl rfl [Value.slice a bs.length cap] rfl ?_
 refine WP.seq (WP.region rfl ?_)
 refine WO.asg rfl rfl ?_
 refine WO.nil (NX.go (WP.seq (WP.seq (WP.region rfl ?_))))
 refine WO.mv rfl rfl ?_
 refine WO.V (run_len rfl Tryz.underlying39 rfl) ?_
 refine WO.mv rfl rfl ?_
 refine WO.nil (NX.go (WP.block ?_))
 refine WP.loop (α := Nat) (fun x => match x with | i => [(0, Value.slice a bs.length cap), (15, Value.slice a bs.length cap), (16, Value.int .i64 ((bs.length : Nat) : Int)), (17, Value.int .i64 (i : Int))]) (fun x w => match x with | i => (i ≤ bs.length ∧ ∀ j b, j < i → bs[j]? = some b → checkB b = 0) ∧ St B (X :: allA blA bs :: L) w) (fun x => match x with | i => bs.length - i) 0 ⟨⟨Nat.zero_le _, fun j b h => absurd h (by omega)⟩, hS⟩ (Sub.cons rfl (Sub.cons rfl (Sub.cons rfl (Sub.consE rfl (by first | rfl | first | rfl | (congr 1; omega) | (simp; done) | (simp; omega)) (Sub.nil _))))) ?_
 rintro i w1 ⟨⟨hi, hall⟩, hS1⟩
 clear hS
 refine WP.seq (WP.region rfl ?_)
 refine WO.V (run_lss rfl rfl) ?_
 refine WO.nil (NX.go (WP.seq ?_))
 refine WP.condP rfl (fun g18 => ?_) (fun g18 => ?_)
 ·
  refine WP.skip (NX.go (WP.seq (WP.block (WP.seq ?_))))
  obtain ⟨b1, hb1⟩ : ∃ qq, bs[i]? = some qq := ⟨_, List.getElem?_eq_getElem (by omega)⟩
  refine WP.region rfl ?_
  refine WO.V (run_indexAddr (q := adr a (i * 4)) Tryz.underlying39 Ty.sz46 rfl rfl (by omega) (by omega) ((hX (hS1.focus 0 rfl)).2.1 (by omega)) rfl) ?_
  refine WO.V (run_loadAgg (vs := (blc b1)) Ty.ag46 Ty.sz46 rfl ((hX (hS1.focus 0 rfl)).cells (by rw [flat_len blc_len]; omega) (flat_part blc_len hb1)).1 ((hX (hS1.focus 0 rfl)).cells (by rw [flat_len blc_len]; omega) (flat_part blc_len hb1)).2) ?_
  refine WO.alloc (l := [Value.int .i64 0, Value.int .i64 0, Value.slice none 0 0, Value.slice none 0 0]) hS1 Ty.zr46 rfl rfl (fun g3 w2 lg3 hS2 => ?_)
  clear hS1
  refine WO.store (l' := (blc b1)) 0 hS2 rfl Ty.sz46 rfl rfl rfl rfl rfl (Nat.le_of_ble_eq_true rfl) rfl (fun w4 (hS4 : St B (cel g3 (blc b1) 46 :: _::_::L) w4) => ?_)
  clear hS2
  refine WO.nil (NX.go (WP.seq (WP.region rfl ?_)))
  refine WO.V (run_loadAgg (vs := (blc b1)) Ty.ag46 Ty.sz46 rfl rfl (cell_all (hS4.cel_at 0 rfl) 0 rfl)) ?_
  have hS5 := allA_get blA_pers (List.mem_of_getElem? hb1) (hS4.permT [2] (L' := _::_::_::L) rfl)
  clear hS4
  refine WO.call rfl rfl Ty.hd58 rfl (bchk_spec b1 (hbz b1 (List.mem_of_getElem? hb1)) hS5) (fun v7 w6 pv7 => ?_)
  obtain ⟨rfl, hS6⟩ := pv7
  clear hS5
  refine WO.asg rfl rfl ?_
  refine WO.nil (NX.go (WP.seq (WP.region rfl ?_)))
  refine WO.mv rfl rfl ?_
  refine WO.V (run_neq rfl rfl) ?_
  refine WO.nil (NX.go ?_)
  refine WP.condP rfl (fun g24 => ?_) (fun g24 => ?_)
  ·
   refine WP.seq (WP.region rfl ?_)
   refine WO.mv rfl rfl ?_
   refine WO.asg rfl rfl ?_
   refine WO.nil (NX.go (WP.ret (NX.blkRet (NX.thenRet (NX.thenRet (NX.blkRet (NX.thenRet ?_)))))))
   refine NX.done (l := [.tmp 2]) rfl rfl ?_
   have h9 := chkAll_at hall hb1 g24
   have h8 : ¬ chkAll bs = 0 := by rw [h9]; exact g24
   exact ⟨congrArg (Value.int .i64) (by unfold followV; rw [if_pos h8, h9]), ((hS6.mask [false, true, false] (L' := _::_::L) rfl).permT [1] (L' := _::_::L) rfl)⟩
  ·
   refine WP.skip (NX.blk (NX.go (WP.region rfl ?_)))
   refine WO.V (run_add rfl rfl (IntWalk.i64_in _ (by omega))) ?_
   refine WO.mv rfl rfl ?_
   refine WO.nil ?_
   exact NX.again (i + 1) ⟨⟨by omega, upto_next hall hb1 (by simpa using g24)⟩, ((hS6.mask [false, true, false] (L' := _::_::L) rfl).permT [1] (L' := _::_::L) rfl)⟩ (by show bs.length - (i + 1) < bs.length - i; omega) (Sub.cons rfl (Sub.cons rfl (Sub.cons rfl (Sub.consE rfl (by congr 1) (Sub.nil _)))))
 ·
  refine WP.exit (NX.thenExit (NX.thenExit ?_))
  refine NX.blkExit ?_
  refine NX.go (WP.seq ?_)
  have hchk : ∀ b ∈ bs, checkB b = 0 := fun b hb => by obtain ⟨j, hj⟩ := List.mem_iff_getElem?.1 hb; exact hall j b (by have := (List.getElem?_eq_some_iff.1 hj).1; omega) hj
  refine WP.region rfl ?_
  refine WO.asg rfl rfl ?_
  refine WO.nil (NX.go (WP.seq (WP.region rfl ?_)))
  refine WO.makeMap hS1 rfl (fun r9 w8 hS8 => ?_)
  clear hS1
  refine WO.asg rfl rfl ?_
  refine WO.nil (NX.go (WP.seq (WP.seq (WP.region rfl ?_))))
  refine WO.mv rfl rfl ?_
  refine WO.V (run_len rfl Tryz.underlying39 rfl) ?_
  refine WO.mv rfl rfl ?_
  refine WO.nil (NX.go (WP.block ?_))
  replace hS8 := (St.addPure trivial hS8 : St B (sqA (rwA 93 103) [] [] :: mpS r9 [] :: X :: allA blA bs :: L) w8)
  refine WP.loop (α := Nat × Int × List Nat × List MRow × List RowP) (fun x => match x with | ⟨i, nx, gs, S, A⟩ => [(0, Value.slice a bs.length cap), (6, Value.int .i64 nx), (7, Value.map (some r9)), (28, Value.slice a bs.length cap), (29, Value.int .i64 ((bs.length : Nat) : Int)), (30, Value.int .i64 (i : Int))]) (fun x w => match x with | ⟨i, nx, gs, S, A⟩ => (i ≤ bs.length ∧ ordGo nx A (bs.drop i) = ordGo 1 [] bs ∧ (S.map MRow.p).Perm A ∧ SrtR A ∧ (∀ r ∈ S, chk r.lb.l = true) ∧ S.length ≤ 100000 * i ∧ (∀ r ∈ S, r.pt.l.length ≤ 0)) ∧ St B (mpS r9 (entR gs S) :: sqA (rwA 93 103) gs S :: X :: allA blA bs :: L) w) (fun x => match x with | ⟨i, nx, gs, S, A⟩ => bs.length - i) (0, 1, [], [], []) ⟨⟨Nat.zero_le _, rfl, List.Perm.refl _, List.Pairwise.nil, (fun r h => by cases h), Nat.zero_le _, (fun r h => by cases h)⟩, (hS8.permT [1] (L' := _::_::_::_::L) rfl)⟩ (Sub.cons rfl (Sub.consE rfl (by first | rfl | first | rfl | (congr 1; omega) | (simp; done) | (simp; omega)) (Sub.cons rfl (Sub.cons rfl (Sub.cons rfl (Sub.consE rfl (by first | rfl | first | rfl | (congr 1; omega) | (simp; done) | (simp; omega)) (Sub.nil _))))))) ?_
  rintro ⟨i, nx, gs, S, A⟩ w10 ⟨⟨hi, hgo, hperm, hAs, hch, hSn, hSp⟩, hS10⟩
  clear hS8
  refine WP.seq (WP.region rfl ?_)
  refine WO.V (run_lss rfl rfl) ?_
  refine WO.nil (NX.go (WP.seq ?_))
  refine WP.condP rfl (fun g31 => ?_) (fun g31 => ?_)
  ·
   refine WP.skip (NX.go (WP.seq (WP.block (WP.seq ?_))))
   obtain ⟨b1, hb1⟩ : ∃ qq, bs[i]? = some qq := ⟨_, List.getElem?_eq_getElem (by omega)⟩
   have hqt := checkB_to (hchk b1 (List.mem_of_getElem? hb1))
   have hzb := hbz b1 (List.mem_of_getElem? hb1)
   have hrl := wsum_ge (checkB_chk (hchk b1 (List.mem_of_getElem? hb1)))
   have hwb := hwg b1 (List.mem_of_getElem? hb1)
   unfold wgt at hwb
   refine WP.region rfl ?_
   refine WO.V (run_indexAddr (q := adr a (i * 4)) Tryz.underlying39 Ty.sz46 rfl rfl (by omega) (by omega) ((hX (hS10.focus 2 rfl)).2.1 (by omega)) rfl) ?_
   refine WO.V (run_loadAgg (vs := (blc b1)) Ty.ag46 Ty.sz46 rfl ((hX (hS10.focus 2 rfl)).cells (by rw [flat_len blc_len]; omega) (flat_part blc_len hb1)).1 ((hX (hS10.focus 2 rfl)).cells (by rw [flat_len blc_len]; omega) (flat_part blc_len hb1)).2) ?_
   refine WO.alloc (l := [Value.int .i64 0, Value.int .i64 0, Value.slice none 0 0, Value.slice none 0 0]) hS10 Ty.zr46 rfl rfl (fun g12 w11 lg12 hS11 => ?_)
   clear hS10
   refine WO.store (l' := (blc b1)) 0 hS11 rfl Ty.sz46 rfl rfl rfl rfl rfl (Nat.le_of_ble_eq_true rfl) rfl (fun w13 (hS13 : St B (cel g12 (blc b1) 46 :: _::_::_::_::L) w13) => ?_)
   clear hS11
   refine WO.nil (NX.go (WP.seq (WP.seq (WP.region rfl ?_))))
   refine WO.V (run_fa 0 ⟨g12, 0, none⟩ rfl rfl) ?_
   refine WO.V (run_load Ty.ag3 rfl ((hS13.cel_at 0 rfl 0).trans rfl)) ?_
   refine WO.mv rfl rfl ?_
   refine WO.V (run_neq rfl rfl) ?_
   refine WO.nil (NX.go ?_)
   refine WP.condP rfl (fun g37 => ?_) (fun g37 => ?_)
   ·
    refine WP.seq (WP.region rfl ?_)
    refine WO.asg rfl rfl ?_
    refine WO.nil (NX.go (WP.ret (NX.thenRet (NX.blkRet (NX.thenRet (NX.thenRet (NX.blkRet (NX.thenRet ?_))))))))
    refine NX.done (l := [.tmp 2]) rfl rfl ?_
    have h8 : followV bs = ordGo 1 [] bs := by unfold followV; rw [if_neg (by simp [chkAll_zero hchk])]
    exact ⟨congrArg (Value.int .i64) (by rw [h8, ← hgo, drop_cons hb1, ordGo, if_pos (by omega)]), hS13.drop.drop.drop⟩
   ·
    refine WP.skip (NX.go (WP.seq ?_))
    have hfn : b1.first = nx := by omega
    refine WP.region rfl ?_
    refine WO.V (run_fa 1 ⟨g12, 1, none⟩ rfl rfl) ?_
    refine WO.V (run_load Ty.ag3 rfl ((hS13.cel_at 0 rfl 1).trans rfl)) ?_
    refine WO.V (run_add rfl rfl (IntWalk.i64_in _ (by omega))) ?_
    refine WO.asg rfl rfl ?_
    refine WO.nil (NX.go (WP.seq (WP.seq ?_)))
    have hS14 := blA_get (List.mem_of_getElem? hb1) (hS13.permT [4] (L' := _::_::_::_::_::L) rfl)
    clear hS13
    have hS15 : St B ((rsA b1.rs) :: allA mrA b1.rs.l :: _::_::_::_::_::L) w13 := (hS14.mask [true, true, false, false] (L' := _::_::_::_::_::_::_::L) rfl)
    clear hS14
    refine WP.region rfl ?_
    refine WO.V (run_fa 2 ⟨g12, 2, none⟩ rfl rfl) ?_
    refine WO.V (run_load Ty.ag44 rfl ((hS15.cel_at 3 rfl 2).trans rfl)) ?_
    refine WO.V (run_len rfl Tryz.underlying44 rfl) ?_
    refine WO.mv rfl rfl ?_
    refine WO.nil (NX.go (WP.block ?_))
    have hS16 : St B (_::_::_::_::_::_::_::L) w13 := (hS15.permT [0, 0, 2, 2] (L' := _::_::_::_::_::_::_::L) rfl)
    clear hS15
    refine WP.loop (α := Nat) (fun x => match x with | k => [(0, Value.slice a bs.length cap), (6, Value.int .i64 (b1.to + 1)), (7, Value.map (some r9)), (9, Value.pointer (some ⟨g12, 0, none⟩)), (28, Value.slice a bs.length cap), (29, Value.int .i64 ((bs.length : Nat) : Int)), (30, Value.int .i64 (i : Int)), (42, Value.slice b1.rs.a b1.rs.l.length b1.rs.cap), (43, Value.int .i64 ((b1.rs.l.length : Nat) : Int)), (44, Value.int .i64 (k : Int))]) (fun x w => match x with | k => (k ≤ b1.rs.l.length ∧ (b1.rs.l.drop k).any (fun r => clashP A r.p) = b1.rs.l.any (fun r => clashP A r.p)) ∧ St B (mpS r9 (entR gs S) :: sqA (rwA 93 103) gs S :: (rsA b1.rs) :: allA mrA b1.rs.l :: allA blA bs :: cel g12 (blc b1) 46 :: X :: L) w) (fun x => match x with | k => b1.rs.l.length - k) 0 ⟨⟨Nat.zero_le _, rfl⟩, (hS16.permT [2, 2] (L' := _::_::_::_::_::_::_::L) rfl)⟩ (Sub.cons rfl (Sub.cons rfl (Sub.cons rfl (Sub.cons rfl (Sub.cons rfl (Sub.cons rfl (Sub.cons rfl (Sub.cons rfl (Sub.cons rfl (Sub.consE rfl (by first | rfl | first | rfl | (congr 1; omega) | (simp; done) | (simp; omega)) (Sub.nil _))))))))))) ?_
    rintro k w17 ⟨⟨hk, hcl⟩, hS17⟩
    clear hS16
    refine WP.seq (WP.region rfl ?_)
    refine WO.V (run_lss rfl rfl) ?_
    refine WO.nil (NX.go (WP.seq ?_))
    refine WP.condP rfl (fun g45 => ?_) (fun g45 => ?_)
    ·
     refine WP.skip (NX.go (WP.seq (WP.block (WP.seq ?_))))
     obtain ⟨u, hu⟩ : ∃ qq, b1.rs.l[k]? = some qq := ⟨_, List.getElem?_eq_getElem (by omega)⟩
     have hzu := hzb.r u (List.mem_of_getElem? hu)
     have hcu := checkB_chk (hchk b1 (List.mem_of_getElem? hb1)) u (List.mem_of_getElem? hu)
     refine WP.region rfl ?_
     refine WO.V (run_indexAddr (q := adr b1.rs.a (k * 3)) Tryz.underlying44 Ty.sz93 rfl rfl (by omega) (by omega) ((rdH_rd (hS17.focus 2 rfl)).2.1 (by omega)) rfl) ?_
     refine WO.V (run_loadAgg (vs := (mrc u)) Ty.ag93 Ty.sz93 rfl ((rdH_rd (hS17.focus 2 rfl)).cells (by rw [flat_len mrc_len]; omega) (flat_part mrc_len hu)).1 ((rdH_rd (hS17.focus 2 rfl)).cells (by rw [flat_len mrc_len]; omega) (flat_part mrc_len hu)).2) ?_
     refine WO.alloc (l := [Value.slice none 0 0, Value.int .i64 0, Value.slice none 0 0]) hS17 Ty.zr93 rfl rfl (fun g19 w18 lg19 hS18 => ?_)
     clear hS17
     refine WO.store (l' := (mrc u)) 0 hS18 rfl Ty.sz93 rfl rfl rfl rfl rfl (Nat.le_of_ble_eq_true rfl) rfl (fun w20 (hS20 : St B (cel g19 (mrc u) 93 :: _::_::_::_::_::_::_::L) w20) => ?_)
     clear hS18
     refine WO.nil (NX.go (WP.seq ?_))
     have hS21 := mrA_get (List.mem_of_getElem? hu) (hS20.permT [4] (L' := _::_::_::_::_::_::_::_::L) rfl)
     clear hS20
     refine WP.region rfl ?_
     refine WO.V (run_fa 0 ⟨g19, 0, none⟩ rfl rfl) ?_
     refine WO.V (run_load Ty.ag65 rfl ((hS21.cel_at 3 rfl 0).trans rfl)) ?_
     refine WO.call rfl rfl Ty.hd59 rfl (lenc_spec rdH_rd hzu.2.2 hzu.1 hS21) (fun v23 w22 pv23 => ?_)
     obtain ⟨rfl, hS22⟩ := pv23
     clear hS21
     refine WO.mv rfl rfl ?_
     refine WO.V (run_extract rfl rfl) ?_
     refine WO.V (run_extract rfl rfl) ?_
     refine WO.asg rfl rfl ?_
     refine WO.asg rfl rfl ?_
     refine WO.nil (NX.go (WP.seq (WP.region rfl ?_)))
     refine WO.mv rfl rfl ?_
     refine WO.mv rfl rfl ?_
     refine WO.V (run_lookupS 4 hS22 rfl Tryz.underlying116 Tryz.underlying9 Ty.zr119 rfl rfl (look_row hcu hch)) ?_
     refine WO.asg rfl rfl ?_
     refine WO.nil (NX.go (WP.seq ?_))
     have hlen := sqA_len (hS22.focus 5 rfl)
     refine WD.start (fun w => (∀ jz, World.cell? w ⟨g19, jz, none⟩ = (mrc u)[jz]?) ∧ Rd w u.pt.a u.pt.l.length 2 (u.pt.l.flatMap ptc) ∧ (∀ gq, findG gs S u.lb.l = some gq → World.cell? w ⟨gq, 1, none⟩ = some (Value.int .i64 (lastG gs S u.lb.l)))) [] (bt 20 0) Ty.mo rfl (by kernel_rfl) hS22 (fun _ h => ⟨h.cel_at 3 rfl, (rdH_rd (h.focus 1 rfl)), (fun gq hf => sq_last (h.focus 5 rfl) hf)⟩) (fun w24 hS24 s25 => ?_)
     clear hS22
     refine DP (i := 0) t21_21 (bt 20 1) rfl rfl rfl rfl (fun w => run_move rfl) ?_
     refine DP (i := 1) t21_21 (bt 20 3) rfl rfl rfl rfl (fun w => run_neqNilP Tryz.underlying119 rfl rfl) ?_
     refine DP (i := 2) t21_21 (bt 20 7) rfl rfl rfl rfl (fun w => run_move rfl) ?_
     rcases Bool.eq_false_or_eq_true (!((findG gs S u.lb.l).map fun g => (⟨g, 0, none⟩ : Addr)).isNone) with g59 | g59
     ·
      obtain ⟨gq, hgq⟩ : ∃ g, findG gs S u.lb.l = some g := by cases hq : findG gs S u.lb.l with | none => (rw [hq] at g59; cases g59) | some g => exact ⟨g, rfl⟩
      refine DPn (i := 3) t21_21 (bt 20 15) rfl rfl rfl g59 rfl (fun w => run_fa 2 ⟨g19, 2, none⟩ rfl rfl) ?_
      refine DTn (i := 4) t21_21 (bt 20 31) s25 rfl rfl rfl g59 rfl (fun w hs => run_load Ty.ag66 rfl ((hs.1 2).trans rfl)) ?_
      refine DPn (i := 5) t21_21 (bt 20 63) rfl rfl rfl g59 rfl (fun w => run_len rfl Tryz.underlying66 rfl) ?_
      refine DPn (i := 6) t21_21 (bt 20 127) rfl rfl rfl g59 rfl (fun w => run_gtr rfl rfl) ?_
      refine DP (i := 7) t21_21 (bt 20 255) rfl rfl rfl rfl (fun w => run_pickT rfl g59 rfl) ?_
      refine DP (i := 8) t21_21 (bt 20 511) rfl rfl rfl rfl (fun w => run_move rfl) ?_
      refine dcase (p := 0 < ((u.pt.l.length : Nat) : Int)) (fun g65 d65 => ?_) (fun g65 d65 => ?_)
      ·
       obtain ⟨p0, hp0⟩ : ∃ qq, u.pt.l[0]? = some qq := ⟨_, List.getElem?_eq_getElem (by omega)⟩
       have hsp : u.pt.a.isSome = true := rd_isSome ((rdH_rd (hS24.focus 1 rfl))) (by omega)
       refine DPn (i := 9) t21_21 (bt 20 1023) rfl rfl rfl d65 rfl (fun w => run_fa 2 ⟨g19, 2, none⟩ rfl rfl) ?_
       refine DTn (i := 10) t21_21 (bt 20 2047) s25 rfl rfl rfl d65 rfl (fun w hs => run_load Ty.ag66 rfl ((hs.1 2).trans rfl)) ?_
       refine DTn (i := 11) t21_21 (bt 20 4095) s25 rfl rfl rfl d65 rfl (fun w hs => run_indexAddr (q := adr u.pt.a (0 * 2)) Tryz.underlying66 Ty.sz103 rfl rfl (by omega) (by omega) ((hs.2.1).2.1 (by omega)) rfl) ?_
       refine DPn (i := 12) t21_21 (bt 20 8191) rfl rfl rfl d65 rfl (fun w => run_fa 0 (adr u.pt.a (0 * 2 + 0)) rfl (adr_add _ (by assumption) _ _)) ?_
       refine DTn (i := 13) t21_21 (bt 20 16383) s25 rfl rfl rfl d65 rfl (fun w hs => run_load Ty.ag2 rfl ((hs.2.1).cell ((flat_get ptc_len hp0 (j := 0) (by decide)).trans rfl))) ?_
       refine DPn (i := 14) t21_21 (bt 20 32767) rfl rfl rfl d65 rfl (fun w => run_move rfl) ?_
       refine DPn (i := 15) t21_21 (bt 20 65535) rfl rfl rfl d65 rfl (fun w => run_nilCheck (ptr_find hgq)) ?_
       refine DPn (i := 16) t21_21 (bt 20 131071) rfl rfl rfl d65 rfl (fun w => run_fa 1 ⟨gq, 1, none⟩ rfl rfl) ?_
       refine DTn (i := 17) t21_21 (bt 20 262143) s25 rfl rfl rfl d65 rfl (fun w hs => run_load Ty.ag2 rfl (hs.2.2 gq hgq)) ?_
       refine DPn (i := 18) t21_21 (bt 20 524287) rfl rfl rfl d65 rfl (fun w => run_leq rfl rfl) ?_
       refine DP (i := 19) t21_21 (bt 20 1048575) rfl rfl rfl rfl (fun w => run_pickT rfl d65 rfl) ?_
       refine WD.done t21_21 (by kernel_rfl) ?_
       refine NX.go ?_
       refine WP.condP rfl (fun g76 => ?_) (fun g76 => ?_)
       ·
        refine WP.seq (WP.region rfl ?_)
        refine WO.asg rfl rfl ?_
        refine WO.nil (NX.go (WP.ret (NX.blkRet (NX.thenRet (NX.thenRet (NX.blkRet (NX.thenRet (NX.blkRet (NX.thenRet (NX.thenRet (NX.blkRet (NX.thenRet ?_))))))))))))
        refine NX.done (l := [.tmp 2]) rfl rfl ?_
        have h8 : followV bs = ordGo 1 [] bs := by unfold followV; rw [if_neg (by simp [chkAll_zero hchk])]
        have h7 : b1.rs.l.any (fun r => clashP A r.p) = true := by rw [← hcl, drop_cons hu, List.any_cons, clash_some hperm hAs hgq hp0, decide_eq_true g76]; rfl
        exact ⟨congrArg (Value.int .i64) (by rw [h8, ← hgo, drop_cons hb1, ordGo, if_neg (by simp [hfn]), if_pos h7]), ((hS24.mask [false, false, false, false, false, false, false, true, false] (L' := _::_::L) rfl).permT [1] (L' := _::_::L) rfl)⟩
       ·
        refine WP.skip (NX.blk (NX.go ?_))
        have hck1 : clashP A u.p = false := by rw [clash_some hperm hAs hgq hp0]; exact decide_eq_false g76
        refine WP.region rfl ?_
        refine WO.V (run_add rfl rfl (IntWalk.i64_in _ (by omega))) ?_
        refine WO.mv rfl rfl ?_
        refine WO.nil ?_
        exact NX.again (k + 1) ⟨⟨by omega, by rw [← hcl, drop_cons hu, List.any_cons, hck1, Bool.false_or]⟩, ((hS24.mask [false, false, true, false] (L' := _::_::_::_::_::_::_::L) rfl).permT [1, 1, 1] (L' := _::_::_::_::_::_::_::L) rfl)⟩ (by show b1.rs.l.length - (k + 1) < b1.rs.l.length - k; omega) (Sub.cons rfl (Sub.cons rfl (Sub.cons rfl (Sub.cons rfl (Sub.cons rfl (Sub.cons rfl (Sub.cons rfl (Sub.cons rfl (Sub.cons rfl (Sub.consE rfl (by congr 1) (Sub.nil _)))))))))))
      ·
       refine DO (i := 9) t21_21 (bt 20 1023) rfl rfl rfl d65 rfl ?_
       refine DO (i := 10) t21_21 (bt 20 2047) rfl rfl rfl d65 rfl ?_
       refine DO (i := 11) t21_21 (bt 20 4095) rfl rfl rfl d65 rfl ?_
       refine DO (i := 12) t21_21 (bt 20 8191) rfl rfl rfl d65 rfl ?_
       refine DO (i := 13) t21_21 (bt 20 16383) rfl rfl rfl d65 rfl ?_
       refine DO (i := 14) t21_21 (bt 20 32767) rfl rfl rfl d65 rfl ?_
       refine DO (i := 15) t21_21 (bt 20 65535) rfl rfl rfl d65 rfl ?_
       refine DO (i := 16) t21_21 (bt 20 131071) rfl rfl rfl d65 rfl ?_
       refine DO (i := 17) t21_21 (bt 20 262143) rfl rfl rfl d65 rfl ?_
       refine DO (i := 18) t21_21 (bt 20 524287) rfl rfl rfl d65 rfl ?_
       refine DP (i := 19) t21_21 (bt 20 1048575) rfl rfl rfl rfl (fun w => run_pickF rfl d65 rfl) ?_
       refine WD.done t21_21 (by kernel_rfl) ?_
       refine NX.go ?_
       refine WP.condF rfl rfl ?_
       refine WP.skip (NX.blk (NX.go ?_))
       have hck1 : clashP A u.p = false := clash_nil (List.length_eq_zero_iff.1 (by omega))
       refine WP.region rfl ?_
       refine WO.V (run_add rfl rfl (IntWalk.i64_in _ (by omega))) ?_
       refine WO.mv rfl rfl ?_
       refine WO.nil ?_
       exact NX.again (k + 1) ⟨⟨by omega, by rw [← hcl, drop_cons hu, List.any_cons, hck1, Bool.false_or]⟩, ((hS24.mask [false, false, true, false] (L' := _::_::_::_::_::_::_::L) rfl).permT [1, 1, 1] (L' := _::_::_::_::_::_::_::L) rfl)⟩ (by show b1.rs.l.length - (k + 1) < b1.rs.l.length - k; omega) (Sub.cons rfl (Sub.cons rfl (Sub.cons rfl (Sub.cons rfl (Sub.cons rfl (Sub.cons rfl (Sub.cons rfl (Sub.cons rfl (Sub.cons rfl (Sub.consE rfl (by congr 1) (Sub.nil _)))))))))))
     ·
      have hgn : findG gs S u.lb.l = none := by cases hq : findG gs S u.lb.l with | none => rfl | some g => (rw [hq] at g59; cases g59)
      refine DO (i := 3) t21_21 (bt 20 15) rfl rfl rfl g59 rfl ?_
      refine DO (i := 4) t21_21 (bt 20 31) rfl rfl rfl g59 rfl ?_
      refine DO (i := 5) t21_21 (bt 20 63) rfl rfl rfl g59 rfl ?_
      refine DO (i := 6) t21_21 (bt 20 127) rfl rfl rfl g59 rfl ?_
      refine DP (i := 7) t21_21 (bt 20 255) rfl rfl rfl rfl (fun w => run_pickF rfl g59 rfl) ?_
      refine DP (i := 8) t21_21 (bt 20 511) rfl rfl rfl rfl (fun w => run_move rfl) ?_
      refine DO (i := 9) t21_21 (bt 20 1023) rfl rfl rfl rfl rfl ?_
      refine DO (i := 10) t21_21 (bt 20 2047) rfl rfl rfl rfl rfl ?_
      refine DO (i := 11) t21_21 (bt 20 4095) rfl rfl rfl rfl rfl ?_
      refine DO (i := 12) t21_21 (bt 20 8191) rfl rfl rfl rfl rfl ?_
      refine DO (i := 13) t21_21 (bt 20 16383) rfl rfl rfl rfl rfl ?_
      refine DO (i := 14) t21_21 (bt 20 32767) rfl rfl rfl rfl rfl ?_
      refine DO (i := 15) t21_21 (bt 20 65535) rfl rfl rfl rfl rfl ?_
      refine DO (i := 16) t21_21 (bt 20 131071) rfl rfl rfl rfl rfl ?_
      refine DO (i := 17) t21_21 (bt 20 262143) rfl rfl rfl rfl rfl ?_
      refine DO (i := 18) t21_21 (bt 20 524287) rfl rfl rfl rfl rfl ?_
      refine DP (i := 19) t21_21 (bt 20 1048575) rfl rfl rfl rfl (fun w => run_pickF rfl rfl rfl) ?_
      refine WD.done t21_21 (by kernel_rfl) ?_
      refine NX.go ?_
      refine WP.condF rfl rfl ?_
      refine WP.skip (NX.blk (NX.go ?_))
      have hck1 : clashP A u.p = false := clash_none hperm hlen hgn
      refine WP.region rfl ?_
      refine WO.V (run_add rfl rfl (IntWalk.i64_in _ (by omega))) ?_
      refine WO.mv rfl rfl ?_
      refine WO.nil ?_
      exact NX.again (k + 1) ⟨⟨by omega, by rw [← hcl, drop_cons hu, List.any_cons, hck1, Bool.false_or]⟩, ((hS24.mask [false, false, true, false] (L' := _::_::_::_::_::_::_::L) rfl).permT [1, 1, 1] (L' := _::_::_::_::_::_::_::L) rfl)⟩ (by show b1.rs.l.length - (k + 1) < b1.rs.l.length - k; omega) (Sub.cons rfl (Sub.cons rfl (Sub.cons rfl (Sub.cons rfl (Sub.cons rfl (Sub.cons rfl (Sub.cons rfl (Sub.cons rfl (Sub.cons rfl (Sub.consE rfl (by congr 1) (Sub.nil _)))))))))))
    ·
     refine WP.exit (NX.thenExit (NX.thenExit ?_))
     refine NX.blkExit ?_
     refine NX.go ?_
     have hcl0 : b1.rs.l.any (fun r => clashP A r.p) = false := by rw [← hcl, List.drop_of_length_le (by omega)]; rfl
     refine WP.region rfl ?_
     refine WO.mv rfl rfl ?_
     refine WO.V (run_loadAgg (vs := (blc b1)) Ty.ag46 Ty.sz46 rfl rfl (cell_all (hS17.cel_at 5 rfl) 0 rfl)) ?_
     refine WO.call rfl rfl Ty.hd60 rfl (padd_spec (n0 := 100000 * i) (M := 0) (R0 := S.map MRow.p) b1 (hbz b1 (List.mem_of_getElem? hb1)).nr (checkB_chk (hchk b1 (List.mem_of_getElem? hb1))) hch rfl hSn hSp hS17) (fun v27 w26 pv27 => ?_)
     obtain ⟨gs2, S2, rfl, hS2, hch2, hSn2, hSp2, hS26⟩ := pv27
     clear hS17
     refine WO.nil (NX.blk (NX.go (WP.region rfl ?_)))
     refine WO.V (run_add rfl rfl (IntWalk.i64_in _ (by omega))) ?_
     refine WO.mv rfl rfl ?_
     refine WO.nil ?_
     exact NX.again (i + 1, b1.to + 1, gs2, S2, rowsL (b1.rs.l.map MRow.p) A) ⟨⟨by omega, by rw [← hgo, drop_cons hb1, ordGo, if_neg (by simp [hfn]), if_neg (by rw [hcl0]; decide)], hS2 ▸ rowsLU_perm hAs hperm, rowsL_srt hAs, hch2, by omega, hSp2⟩, ((hS26.mask [true, true, false, false, true, false] (L' := _::_::_::_::L) rfl).permT [0, 0, 1] (L' := _::_::_::_::L) rfl)⟩ (by show bs.length - (i + 1) < bs.length - i; omega) (Sub.cons rfl (Sub.consE rfl (by first | rfl | (congr 1; omega) | (simp; done) | (simp; omega)) (Sub.cons rfl (Sub.cons rfl (Sub.cons rfl (Sub.consE rfl (by congr 1) (Sub.nil _)))))))
  ·
   refine WP.exit (NX.thenExit (NX.thenExit ?_))
   refine NX.blkExit ?_
   refine NX.go (WP.seq (WP.region rfl ?_))
   refine WO.asg rfl rfl ?_
   refine WO.nil (NX.go (WP.ret ?_))
   refine NX.done (l := [.tmp 2]) rfl rfl ?_
   have h8 : followV bs = ordGo 1 [] bs := by unfold followV; rw [if_neg (by simp [chkAll_zero hchk])]
   exact ⟨congrArg (Value.int .i64) (by rw [h8, ← hgo, List.drop_of_length_le (by omega)]; rfl), hS10.drop.drop⟩
end Go.Proofs.YtidoidoelgfnaaaGreatDoor.SL
