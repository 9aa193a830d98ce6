import Derived.Test.YtidoidoelgfnaaaGreatDoorKrmM
import Derived.Test.YtidoidoelgfnaaaGreatDoorKcl
/- Records that are too much. -/
namespace Go.Proofs.YtidoidoelgfnaaaGreatDoor.SL
open Go.RowKit Go.Proofs.YtidoidoelgfnaaaGreatDoor
open Go.Proofs.YtidoidoelgfnaaaGreatDoorW.PrintLast (rtab opsOf)
set_option linter.unusedVariables false
set_option linter.unusedSimpArgs false
theorem t14_9 : rtab .any (opsOf Tryz.f14 9) = (true, [([], []), ([], []), ([1], [1]), ([], []), ([2, 3], [2, 3]), ([4], [4]), ([5], [5]), ([], []), ([6, 7], [6, 7]), ([8], [8]), ([9], [9]), ([10], [10]), ([11], [11]), ([0, 12], [0, 12]), ([], []), ([14], [14]), ([], []), ([15, 16], [15, 16]), ([17], [17]), ([18], [18]), ([], []), ([19, 20], [19, 20]), ([21], [21]), ([22], [22]), ([23], [23]), ([24], [24]), ([13, 25], [13, 25]), ([26, 0, 1, 2, 3, 4, 5, 6, 7, 8, 9, 10, 11, 12, 13, 14, 15, 16, 17, 18, 19, 20, 21, 22, 23, 24, 25, 26], [0, 26])]) := by kernel_rfl
theorem g12_spec {B w : World} {L : List HP} (r : Rcd) (hz : SzR r) (hS : St B (recA r :: L) w) : Does Tryz.prog 14 [Value.agg #[Value.int .i64 r.k, Value.slice r.ss.a r.ss.l.length r.ss.cap, Value.slice r.ms.a r.ms.l.length r.ms.cap, Value.int .i64 r.fr, Value.int .i64 r.to]] w (fun v w1 => (∃ b, v = .bool b) ∧ St B (recA r :: L) w1) := by
 replace hS := recA_open hS
 have hns := hz.ns
 have hnm := hz.nm
 refine enter (n := 74) Tryz.func14 rfl rfl [Value.agg #[Value.int .i64 r.k, Value.slice r.ss.a r.ss.l.length r.ss.cap, Value.slice r.ms.a r.ms.l.length r.ms.cap, Value.int .i64 r.fr, Value.int .i64 r.to]] rfl ?_
 refine WP.seq (WP.region rfl ?_)
 refine WO.box (l := (rcc r)) hS rfl rfl rfl (fun g2 w1 lg2 hS1 => ?_)
 clear hS
 refine WO.asg rfl rfl ?_
 refine WO.nil (NX.go (WP.seq (WP.region rfl ?_)))
 refine WO.V (run_fa 2 ⟨g2, 2, none⟩ rfl rfl) ?_
 refine WO.V (run_load Ty.ag24 rfl ((hS1.cel_at 0 rfl 2).trans rfl)) ?_
 refine WO.V (run_len rfl Tryz.underlying24 rfl) ?_
 refine WO.asg rfl rfl ?_
 refine WO.nil (NX.go (WP.seq (WP.seq (WP.region rfl ?_))))
 refine WO.asg rfl rfl ?_
 refine WO.nil (NX.go (WP.block ?_))
 refine WP.loop (α := Nat × Int) (fun x => match x with | ⟨i, n⟩ => [(0, Value.agg #[Value.int .i64 r.k, Value.slice r.ss.a r.ss.l.length r.ss.cap, Value.slice r.ms.a r.ms.l.length r.ms.cap, Value.int .i64 r.fr, Value.int .i64 r.to]), (1, Value.pointer (some ⟨g2, 0, none⟩)), (3, Value.int .i64 n), (4, Value.int .i64 (i : Int))]) (fun x w => match x with | ⟨i, n⟩ => (i ≤ r.ss.l.length) ∧ St B (cel g2 (rcc r) 33 :: (rdH r.ss.a r.ss.l.length 3 (r.ss.l.flatMap smc)) :: (rdH r.ms.a r.ms.l.length 3 (r.ms.l.flatMap mtc)) :: smsA r.ss.l :: recA r :: L) w) (fun x => match x with | ⟨i, n⟩ => r.ss.l.length - i) (0, ((r.ms.l.length : Nat) : Int)) ⟨Nat.zero_le _, hS1⟩ (Sub.cons rfl (Sub.cons rfl (Sub.consE rfl (by first | rfl | first | rfl | (congr 1; omega) | (simp; done) | (simp; omega)) (Sub.consE rfl (by first | rfl | first | rfl | (congr 1; omega) | (simp; done) | (simp; omega)) (Sub.nil _))))) ?_
 rintro ⟨i, n⟩ w3 ⟨hi, hS3⟩
 clear hS1
 refine WP.seq (WP.seq (WP.region rfl ?_))
 refine WO.mv rfl rfl ?_
 refine WO.V (run_fa 1 ⟨g2, 1, none⟩ rfl rfl) ?_
 refine WO.V (run_load Ty.ag31 rfl ((hS3.cel_at 0 rfl 1).trans rfl)) ?_
 refine WO.V (run_len rfl Tryz.underlying31 rfl) ?_
 refine WO.V (run_lss rfl rfl) ?_
 refine WO.mv rfl rfl ?_
 refine dcase (p := (i : Int) < ((r.ss.l.length : Nat) : Int)) (fun g14 d14 => ?_) (fun g14 d14 => ?_)
 ·
  refine WO.on rfl rfl d14 ?_
  refine WO.mv rfl rfl ?_
  refine WO.on rfl rfl d14 ?_
  refine WO.V (run_lss rfl rfl) ?_
  refine WO.V (run_pickT rfl d14 rfl) ?_
  refine WO.nil (NX.go ?_)
  refine WP.condP rfl (fun g17 => ?_) (fun g17 => ?_)
  ·
   refine WP.skip (NX.go (WP.seq (WP.block (WP.seq ?_))))
   obtain ⟨z, hz1⟩ : ∃ qq, r.ss.l[i]? = some qq := ⟨_, List.getElem?_eq_getElem (by omega)⟩
   have hsa : r.ss.a.isSome = true := rd_isSome ((rdH_rd (hS3.focus 1 rfl))) (by omega)
   have hS4 := smsA_get hz1 (hS3.permT [3] (L' := _::_::_::_::_::L) rfl)
   clear hS3
   have hzz := hz.s z (List.mem_of_getElem? hz1)
   refine WP.region rfl ?_
   refine WO.mv rfl rfl ?_
   refine WO.V (run_add rfl rfl rfl) ?_
   refine WO.V (run_fa 1 ⟨g2, 1, none⟩ rfl rfl) ?_
   refine WO.V (run_load Ty.ag31 rfl ((hS4.cel_at 2 rfl 1).trans rfl)) ?_
   refine WO.mv rfl rfl ?_
   refine WO.V (run_indexAddr (q := adr r.ss.a (i * 3)) Tryz.underlying31 Ty.sz83 rfl rfl (by omega) (by omega) ((rdH_rd (hS4.focus 3 rfl)).2.1 (by omega)) rfl) ?_
   refine WO.V (run_fa 0 (adr r.ss.a (i * 3 + 0)) rfl (adr_add _ (by assumption) _ _)) ?_
   refine WO.V (run_load Ty.ag65 rfl ((rdH_rd (hS4.focus 3 rfl)).cell ((flat_get smc_len hz1 (j := 0) (by decide)).trans rfl))) ?_
   refine WO.V (run_len rfl Tryz.underlying65 rfl) ?_
   refine WO.V (run_add rfl rfl rfl) ?_
   refine WO.asg rfl rfl ?_
   refine WO.nil (NX.go (WP.seq (WP.region rfl ?_)))
   refine WO.asg rfl rfl ?_
   refine WO.nil (NX.go (WP.block ?_))
   refine WP.loop (α := Nat × Int) (fun x => match x with | ⟨k, n⟩ => [(0, Value.agg #[Value.int .i64 r.k, Value.slice r.ss.a r.ss.l.length r.ss.cap, Value.slice r.ms.a r.ms.l.length r.ms.cap, Value.int .i64 r.fr, Value.int .i64 r.to]), (1, Value.pointer (some ⟨g2, 0, none⟩)), (3, Value.int .i64 n), (4, Value.int .i64 (i : Int)), (5, Value.int .i64 (k : Int))]) (fun x w => match x with | ⟨k, n⟩ => (k ≤ z.lb.l.length) ∧ St B (cel g2 (rcc r) 33 :: (rdH r.ss.a r.ss.l.length 3 (r.ss.l.flatMap smc)) :: (rdH r.ms.a r.ms.l.length 3 (r.ms.l.flatMap mtc)) :: (labA z.lb) :: smsA r.ss.l :: recA r :: L) w) (fun x => match x with | ⟨k, n⟩ => z.lb.l.length - k) (0, IntKind.i64.wrap ((IntKind.i64.wrap (n + 1)) + ((z.lb.l.length : Nat) : Int))) ⟨Nat.zero_le _, (hS4.permT [2, 2, 2] (L' := _::_::_::_::_::_::L) rfl)⟩ (Sub.cons rfl (Sub.cons rfl (Sub.consE rfl (by first | rfl | first | rfl | (congr 1; omega) | (simp; done) | (simp; omega)) (Sub.cons rfl (Sub.consE rfl (by first | rfl | first | rfl | (congr 1; omega) | (simp; done) | (simp; omega)) (Sub.nil _)))))) ?_
   rintro ⟨k, n⟩ w5 ⟨hk, hS5⟩
   clear hS4
   refine WP.seq (WP.seq (WP.region rfl ?_))
   refine WO.mv rfl rfl ?_
   refine WO.V (run_fa 1 ⟨g2, 1, none⟩ rfl rfl) ?_
   refine WO.V (run_load Ty.ag31 rfl ((hS5.cel_at 0 rfl 1).trans rfl)) ?_
   refine WO.mv rfl rfl ?_
   refine WO.V (run_indexAddr (q := adr r.ss.a (i * 3)) Tryz.underlying31 Ty.sz83 rfl rfl (by omega) (by omega) ((rdH_rd (hS5.focus 1 rfl)).2.1 (by omega)) rfl) ?_
   refine WO.V (run_fa 0 (adr r.ss.a (i * 3 + 0)) rfl (adr_add _ (by assumption) _ _)) ?_
   refine WO.V (run_load Ty.ag65 rfl ((rdH_rd (hS5.focus 1 rfl)).cell ((flat_get smc_len hz1 (j := 0) (by decide)).trans rfl))) ?_
   refine WO.V (run_len rfl Tryz.underlying65 rfl) ?_
   refine WO.V (run_lss rfl rfl) ?_
   refine WO.mv rfl rfl ?_
   refine dcase (p := (k : Int) < ((z.lb.l.length : Nat) : Int)) (fun g39 d39 => ?_) (fun g39 d39 => ?_)
   ·
    refine WO.on rfl rfl d39 ?_
    refine WO.mv rfl rfl ?_
    refine WO.on rfl rfl d39 ?_
    refine WO.V (run_lss rfl rfl) ?_
    refine WO.V (run_pickT rfl d39 rfl) ?_
    refine WO.nil (NX.go ?_)
    refine WP.condP rfl (fun g42 => ?_) (fun g42 => ?_)
    ·
     refine WP.skip (NX.go (WP.seq (WP.block ?_)))
     obtain ⟨p, hp⟩ : ∃ qq, z.lb.l[k]? = some qq := ⟨_, List.getElem?_eq_getElem (by omega)⟩
     have hsp : z.lb.a.isSome = true := rd_isSome ((rdH_rd (hS5.focus 3 rfl))) (by omega)
     have hpz := hzz.2 p (List.mem_of_getElem? hp)
     refine WD.start (fun w => (∀ jz, World.cell? w ⟨g2, jz, none⟩ = (rcc r)[jz]?) ∧ Rd w r.ss.a r.ss.l.length 3 (r.ss.l.flatMap smc) ∧ Rd w r.ms.a r.ms.l.length 3 (r.ms.l.flatMap mtc) ∧ Rd w z.lb.a z.lb.l.length 2 (z.lb.l.flatMap prc)) [] (bt 28 0) Ty.mo rfl (by kernel_rfl) hS5 (fun _ h => ⟨h.cel_at 0 rfl, (rdH_rd (h.focus 1 rfl)), (rdH_rd (h.focus 2 rfl)), (rdH_rd (h.focus 3 rfl))⟩) (fun w6 hS6 s7 => ?_)
     clear hS5
     refine DP (i := 0) t14_9 (bt 28 1) rfl rfl rfl rfl (fun w => run_move rfl) ?_
     refine DP (i := 1) t14_9 (bt 28 3) rfl rfl rfl rfl (fun w => run_fa 1 ⟨g2, 1, none⟩ rfl rfl) ?_
     refine DT (i := 2) t14_9 (bt 28 7) s7 rfl rfl rfl rfl (fun w hs => run_load Ty.ag31 rfl ((hs.1 1).trans rfl)) ?_
     refine DP (i := 3) t14_9 (bt 28 15) rfl rfl rfl rfl (fun w => run_move rfl) ?_
     refine DT (i := 4) t14_9 (bt 28 31) s7 rfl rfl rfl rfl (fun w hs => run_indexAddr (q := adr r.ss.a (i * 3)) Tryz.underlying31 Ty.sz83 rfl rfl (by omega) (by omega) ((hs.2.1).2.1 (by omega)) rfl) ?_
     refine DP (i := 5) t14_9 (bt 28 63) rfl rfl rfl rfl (fun w => run_fa 0 (adr r.ss.a (i * 3 + 0)) rfl (adr_add _ (by assumption) _ _)) ?_
     refine DT (i := 6) t14_9 (bt 28 127) s7 rfl rfl rfl rfl (fun w hs => run_load Ty.ag65 rfl ((hs.2.1).cell ((flat_get smc_len hz1 (j := 0) (by decide)).trans rfl))) ?_
     refine DP (i := 7) t14_9 (bt 28 255) rfl rfl rfl rfl (fun w => run_move rfl) ?_
     refine DT (i := 8) t14_9 (bt 28 511) s7 rfl rfl rfl rfl (fun w hs => run_indexAddr (q := adr z.lb.a (k * 2)) Tryz.underlying65 Ty.sz105 rfl rfl (by omega) (by omega) ((hs.2.2.2).2.1 (by omega)) rfl) ?_
     refine DP (i := 9) t14_9 (bt 28 1023) rfl rfl rfl rfl (fun w => run_fa 0 (adr z.lb.a (k * 2 + 0)) rfl (adr_add _ (by assumption) _ _)) ?_
     refine DT (i := 10) t14_9 (bt 28 2047) s7 rfl rfl rfl rfl (fun w hs => run_load Ty.ag9 rfl ((hs.2.2.2).cell ((flat_get prc_len hp (j := 0) (by decide)).trans rfl))) ?_
     refine DP (i := 11) t14_9 (bt 28 4095) rfl rfl rfl rfl (fun w => run_lenS rfl Tryz.underlying9 rfl) ?_
     refine DP (i := 12) t14_9 (bt 28 8191) rfl rfl rfl rfl (fun w => run_quo rfl rfl (by omega) (quo_i64 (by omega))) ?_
     refine DP (i := 13) t14_9 (bt 28 16383) rfl rfl rfl rfl (fun w => run_add rfl rfl rfl) ?_
     refine DP (i := 14) t14_9 (bt 28 32767) rfl rfl rfl rfl (fun w => run_fa 1 ⟨g2, 1, none⟩ rfl rfl) ?_
     refine DT (i := 15) t14_9 (bt 28 65535) s7 rfl rfl rfl rfl (fun w hs => run_load Ty.ag31 rfl ((hs.1 1).trans rfl)) ?_
     refine DP (i := 16) t14_9 (bt 28 131071) rfl rfl rfl rfl (fun w => run_move rfl) ?_
     refine DT (i := 17) t14_9 (bt 28 262143) s7 rfl rfl rfl rfl (fun w hs => run_indexAddr (q := adr r.ss.a (i * 3)) Tryz.underlying31 Ty.sz83 rfl rfl (by omega) (by omega) ((hs.2.1).2.1 (by omega)) rfl) ?_
     refine DP (i := 18) t14_9 (bt 28 524287) rfl rfl rfl rfl (fun w => run_fa 0 (adr r.ss.a (i * 3 + 0)) rfl (adr_add _ (by assumption) _ _)) ?_
     refine DT (i := 19) t14_9 (bt 28 1048575) s7 rfl rfl rfl rfl (fun w hs => run_load Ty.ag65 rfl ((hs.2.1).cell ((flat_get smc_len hz1 (j := 0) (by decide)).trans rfl))) ?_
     refine DP (i := 20) t14_9 (bt 28 2097151) rfl rfl rfl rfl (fun w => run_move rfl) ?_
     refine DT (i := 21) t14_9 (bt 28 4194303) s7 rfl rfl rfl rfl (fun w hs => run_indexAddr (q := adr z.lb.a (k * 2)) Tryz.underlying65 Ty.sz105 rfl rfl (by omega) (by omega) ((hs.2.2.2).2.1 (by omega)) rfl) ?_
     refine DP (i := 22) t14_9 (bt 28 8388607) rfl rfl rfl rfl (fun w => run_fa 1 (adr z.lb.a (k * 2 + 1)) rfl (adr_add _ (by assumption) _ _)) ?_
     refine DT (i := 23) t14_9 (bt 28 16777215) s7 rfl rfl rfl rfl (fun w hs => run_load Ty.ag9 rfl ((hs.2.2.2).cell ((flat_get prc_len hp (j := 1) (by decide)).trans rfl))) ?_
     refine DP (i := 24) t14_9 (bt 28 33554431) rfl rfl rfl rfl (fun w => run_lenS rfl Tryz.underlying9 rfl) ?_
     refine DP (i := 25) t14_9 (bt 28 67108863) rfl rfl rfl rfl (fun w => run_quo rfl rfl (by omega) (quo_i64 (by omega))) ?_
     refine DP (i := 26) t14_9 (bt 28 134217727) rfl rfl rfl rfl (fun w => run_add rfl rfl rfl) ?_
     refine DP (i := 27) t14_9 (bt 28 268435455) rfl rfl rfl rfl (fun w => run_assign rfl) ?_
     refine WD.done t14_9 (by kernel_rfl) ?_
     refine NX.blk (NX.go (WP.region rfl ?_))
     refine WO.mv rfl rfl ?_
     refine WO.V (run_add rfl rfl (IntWalk.i64_in _ (by omega))) ?_
     refine WO.asg rfl rfl ?_
     refine WO.nil ?_
     exact NX.again (k + 1, IntKind.i64.wrap ((IntKind.i64.wrap (n + ((p.n.length : Int) / 100))) + ((p.v.length : Int) / 100))) ⟨by omega, hS6⟩ (by show z.lb.l.length - (k + 1) < z.lb.l.length - k; omega) (Sub.cons rfl (Sub.cons rfl (Sub.consE rfl (by first | rfl | (congr 1; omega) | (simp; done) | (simp; omega)) (Sub.cons rfl (Sub.consE rfl (by congr 1) (Sub.nil _))))))
    ·
     refine WP.exit (NX.thenExit (NX.thenExit ?_))
     refine NX.blkExit ?_
     refine NX.blk (NX.go (WP.region rfl ?_))
     refine WO.mv rfl rfl ?_
     refine WO.V (run_add rfl rfl (IntWalk.i64_in _ (by omega))) ?_
     refine WO.asg rfl rfl ?_
     refine WO.nil ?_
     exact NX.again (i + 1, n) ⟨by omega, (hS5.mask [true, true, true, false] (L' := _::_::_::_::_::L) rfl)⟩ (by show r.ss.l.length - (i + 1) < r.ss.l.length - i; omega) (Sub.cons rfl (Sub.cons rfl (Sub.consE rfl (by first | rfl | (congr 1; omega) | (simp; done) | (simp; omega)) (Sub.consE rfl (by congr 1) (Sub.nil _)))))
   ·
    refine WO.off rfl rfl d39 rfl ?_
    refine WO.off rfl rfl d39 rfl ?_
    refine WO.V (run_pickF rfl d39 rfl) ?_
    refine WO.nil (NX.go ?_)
    refine WP.condF rfl rfl ?_
    refine WP.exit (NX.thenExit (NX.thenExit ?_))
    refine NX.blkExit ?_
    refine NX.blk (NX.go (WP.region rfl ?_))
    refine WO.mv rfl rfl ?_
    refine WO.V (run_add rfl rfl (IntWalk.i64_in _ (by omega))) ?_
    refine WO.asg rfl rfl ?_
    refine WO.nil ?_
    exact NX.again (i + 1, n) ⟨by omega, (hS5.mask [true, true, true, false] (L' := _::_::_::_::_::L) rfl)⟩ (by show r.ss.l.length - (i + 1) < r.ss.l.length - i; omega) (Sub.cons rfl (Sub.cons rfl (Sub.consE rfl (by first | rfl | (congr 1; omega) | (simp; done) | (simp; omega)) (Sub.consE rfl (by congr 1) (Sub.nil _)))))
  ·
   refine WP.exit (NX.thenExit (NX.thenExit ?_))
   refine NX.blkExit ?_
   refine NX.go (WP.seq (WP.region rfl ?_))
   refine WO.mv rfl rfl ?_
   refine WO.V (run_geq rfl rfl) ?_
   refine WO.asg rfl rfl ?_
   refine WO.nil (NX.go (WP.ret ?_))
   refine NX.done (l := [.tmp 2]) rfl rfl ?_
   exact ⟨⟨_, rfl⟩, hS3.drop.drop.drop.drop⟩
 ·
  refine WO.off rfl rfl d14 rfl ?_
  refine WO.off rfl rfl d14 rfl ?_
  refine WO.V (run_pickF rfl d14 rfl) ?_
  refine WO.nil (NX.go ?_)
  refine WP.condF rfl rfl ?_
  refine WP.exit (NX.thenExit (NX.thenExit ?_))
  refine NX.blkExit ?_
  refine NX.go (WP.seq (WP.region rfl ?_))
  refine WO.mv rfl rfl ?_
  refine WO.V (run_geq rfl rfl) ?_
  refine WO.asg rfl rfl ?_
  refine WO.nil (NX.go (WP.ret ?_))
  refine NX.done (l := [.tmp 2]) rfl rfl ?_
  exact ⟨⟨_, rfl⟩, hS3.drop.drop.drop.drop⟩
end Go.Proofs.YtidoidoelgfnaaaGreatDoor.SL

/- Records that share nothing. -/
namespace Go.Proofs.YtidoidoelgfnaaaGreatDoor.SL
open Go.RowKit Go.Proofs.YtidoidoelgfnaaaGreatDoor
open Go.Proofs.YtidoidoelgfnaaaGreatDoorW.PrintLast (rtab opsOf)
set_option linter.unusedVariables false
set_option linter.unusedSimpArgs false

theorem take_snocM {α : Type} {l : List α} {i : Nat} {x : α} (h : l[i]? = some x) : l.take (i + 1) = l.take i ++ [x] := by
  rw [List.take_add_one, h]; rfl
theorem own12_spec {B w : World} {L : List HP} (r : Rcd) (hz : SzR r) (hS : St B (recA r :: L) w) : Does Tryz.prog 16 [Value.agg #[Value.int .i64 r.k, Value.slice r.ss.a r.ss.l.length r.ss.cap, Value.slice r.ms.a r.ms.l.length r.ms.cap, Value.int .i64 r.fr, Value.int .i64 r.to]] w (fun v w1 => ∃ r1 : Rcd, v = .agg (rcc r1).toArray ∧ r1.p = r.p ∧ St B (recA r1 :: recA r :: L) w1) := by
 replace hS := recA_open hS
 have hns := hz.ns
 have hnm := hz.nm
 refine enter (n := 35) Tryz.func16 rfl rfl [Value.agg #[Value.int .i64 r.k, Value.slice r.ss.a r.ss.l.length r.ss.cap, Value.slice r.ms.a r.ms.l.length r.ms.cap, Value.int .i64 r.fr, Value.int .i64 r.to]] rfl ?_
 refine WP.seq (WP.region rfl ?_)
 refine WO.box (l := (rcc r)) hS rfl rfl rfl (fun g2 w1 lg2 hS1 => ?_)
 clear hS
 refine WO.alloc (l := [Value.int .i64 0, Value.slice none 0 0, Value.slice none 0 0, Value.int .i64 0, Value.int .i64 0]) hS1 Ty.zr33 rfl rfl (fun g4 w3 lg4 hS3 => ?_)
 clear hS1
 refine WO.nil (NX.go (WP.seq (WP.region rfl ?_)))
 refine WO.asg rfl rfl ?_
 refine WO.nil (NX.go (WP.seq (WP.seq (WP.region rfl ?_))))
 refine WO.asg rfl rfl ?_
 refine WO.nil (NX.go (WP.block ?_))
 replace hS3 := (St.addPure trivial hS3 : St B (smsA [] :: cel g4 [Value.int .i64 0, Value.slice none 0 0, Value.slice none 0 0, Value.int .i64 0, Value.int .i64 0] 33 :: cel g2 (rcc r) 33 :: (rdH r.ss.a r.ss.l.length 3 (r.ss.l.flatMap smc)) :: (rdH r.ms.a r.ms.l.length 3 (r.ms.l.flatMap mtc)) :: smsA r.ss.l :: recA r :: L) w3)
 replace hS3 := hS3.own_nil 83 3
 refine WP.loop (α := Nat × List Smp × Option Addr × Nat) (fun x => match x with | ⟨i, sl, oa, oc⟩ => [(1, Value.pointer (some ⟨g2, 0, none⟩)), (2, Value.pointer (some ⟨g4, 0, none⟩)), (3, Value.slice oa sl.length oc), (4, Value.int .i64 (i : Int))]) (fun x w => match x with | ⟨i, sl, oa, oc⟩ => (i ≤ r.ss.l.length ∧ sl.map Smp.p = (r.ss.l.take i).map Smp.p ∧ sl.length = i) ∧ St B (own oa sl.length oc 83 3 (sl.flatMap smc) :: smsA sl :: cel g4 [Value.int .i64 0, Value.slice none 0 0, Value.slice none 0 0, Value.int .i64 0, Value.int .i64 0] 33 :: cel g2 (rcc r) 33 :: (rdH r.ss.a r.ss.l.length 3 (r.ss.l.flatMap smc)) :: (rdH r.ms.a r.ms.l.length 3 (r.ms.l.flatMap mtc)) :: smsA r.ss.l :: recA r :: L) w) (fun x => match x with | ⟨i, sl, oa, oc⟩ => r.ss.l.length - i) (0, [], none, 0) ⟨⟨Nat.zero_le _, rfl, rfl⟩, hS3⟩ (Sub.cons rfl (Sub.cons rfl (Sub.consE rfl (by first | rfl | first | rfl | (congr 1; omega) | (simp; done) | (simp; omega)) (Sub.consE rfl (by first | rfl | first | rfl | (congr 1; omega) | (simp; done) | (simp; omega)) (Sub.nil _))))) ?_
 rintro ⟨i, sl, oa, oc⟩ w5 ⟨⟨hi, hsl, hsn⟩, hS5⟩
 clear hS3
 refine WP.seq (WP.seq (WP.region rfl ?_))
 refine WO.mv rfl rfl ?_
 refine WO.V (run_fa 1 ⟨g2, 1, none⟩ rfl rfl) ?_
 refine WO.V (run_load Ty.ag31 rfl ((hS5.cel_at 3 rfl 1).trans rfl)) ?_
 refine WO.V (run_len rfl Tryz.underlying31 rfl) ?_
 refine WO.V (run_lss rfl rfl) ?_
 refine WO.nil (NX.go ?_)
 refine WP.condP rfl (fun g10 => ?_) (fun g10 => ?_)
 ·
  refine WP.skip (NX.go (WP.seq (WP.block (WP.seq ?_))))
  obtain ⟨z, hz1⟩ : ∃ qq, r.ss.l[i]? = some qq := ⟨_, List.getElem?_eq_getElem (by omega)⟩
  have hsa : r.ss.a.isSome = true := rd_isSome ((rdH_rd (hS5.focus 4 rfl))) (by omega)
  have hS6 := smsA_get hz1 (hS5.permT [6] (L' := _::_::_::_::_::_::_::_::L) rfl)
  clear hS5
  have hzz := hz.s z (List.mem_of_getElem? hz1)
  refine WP.region rfl ?_
  refine WO.V (run_fa 1 ⟨g2, 1, none⟩ rfl rfl) ?_
  refine WO.V (run_load Ty.ag31 rfl ((hS6.cel_at 5 rfl 1).trans rfl)) ?_
  refine WO.mv rfl rfl ?_
  refine WO.V (run_indexAddr (q := adr r.ss.a (i * 3)) Tryz.underlying31 Ty.sz83 rfl rfl (by omega) (by omega) ((rdH_rd (hS6.focus 6 rfl)).2.1 (by omega)) rfl) ?_
  refine WO.V (run_loadAgg (vs := (smc z)) Ty.ag83 Ty.sz83 rfl ((rdH_rd (hS6.focus 6 rfl)).cells (by rw [flat_len smc_len]; omega) (flat_part smc_len hz1)).1 ((rdH_rd (hS6.focus 6 rfl)).cells (by rw [flat_len smc_len]; omega) (flat_part smc_len hz1)).2) ?_
  refine WO.alloc (l := [Value.slice none 0 0, Value.int .i64 0, Value.int .u64 0]) hS6 Ty.zr83 rfl rfl (fun g8 w7 lg8 hS7 => ?_)
  clear hS6
  refine WO.store (l' := (smc z)) 0 hS7 rfl Ty.sz83 rfl rfl rfl rfl rfl (Nat.le_of_ble_eq_true rfl) rfl (fun w9 (hS9 : St B (cel g8 (smc z) 83 :: (labA z.lb) :: _::_::_::_::_::_::_::_::L) w9) => ?_)
  clear hS7
  refine WO.nil (NX.go (WP.seq (WP.region rfl ?_)))
  refine WO.buildSlice (l := []) hS9 Tryz.underlying65 rfl (fun w => by kernel_rfl) rfl (fun g11 w10 lg11 hS10 => ?_)
  clear hS9
  have hS10 := hS10.own_of_cel (m := 0) (k := 2) rfl
  refine WO.V (run_fa 0 ⟨g8, 0, none⟩ rfl rfl) ?_
  refine WO.V (run_load Ty.ag65 rfl ((hS10.cel_at 1 rfl 0).trans rfl)) ?_
  refine WO.append (news := (z.lb.l.flatMap prc)) 0 rfl Tryz.underlying65 Tryz.underlying65 (fun _ h => by cases h) Ty.sz105 (by decide) Ty.by105 Ty.zr105 rfl rfl rfl rfl hS10 rfl ((rdH_rd (hS10.focus 2 rfl)).src) (flat_noAgg prc_na _) (by omega) (by omega) (fun a13 c14 w12 hS12 => ?_)
  replace hS12 : St B (own a13 (0 + z.lb.l.length) c14 105 2 ([] ++ (z.lb.l.flatMap prc)) :: _::_::_::_::_::_::_::_::_::_::L) w12 := hS12
  clear hS10
  refine WO.V (run_fa 0 ⟨g8, 0, none⟩ rfl rfl) ?_
  refine WO.store (l' := [Value.slice a13 (0 + z.lb.l.length) c14, Value.int .i64 z.t, Value.int .u64 z.v]) 1 hS12 rfl Ty.sz65 rfl rfl rfl rfl rfl (Nat.le_of_ble_eq_true rfl) rfl (fun w15 (hS15 : St B (_::cel g8 [Value.slice a13 (0 + z.lb.l.length) c14, Value.int .i64 z.t, Value.int .u64 z.v] 83 :: _::_::_::_::_::_::_::_::_::L) w15) => ?_)
  clear hS12
  refine WO.nil (NX.go (WP.region rfl ?_))
  refine WO.mv rfl rfl ?_
  refine WO.V (run_loadAgg (vs := [Value.slice a13 (0 + z.lb.l.length) c14, Value.int .i64 z.t, Value.int .u64 z.v]) Ty.ag83 Ty.sz83 rfl rfl (cell_all (hS15.cel_at 1 rfl) 0 rfl)) ?_
  refine WO.buildSlice (l := [Value.slice a13 (0 + z.lb.l.length) c14, Value.int .i64 z.t, Value.int .u64 z.v]) hS15 Tryz.underlying31 rfl (fun w => by kernel_rfl) rfl (fun g17 w16 lg17 hS16 => ?_)
  clear hS15
  refine WO.append (news := [Value.slice a13 (0 + z.lb.l.length) c14, Value.int .i64 z.t, Value.int .u64 z.v]) 5 rfl Tryz.underlying31 Tryz.underlying31 (fun _ h => by cases h) Ty.sz83 (by decide) Ty.by83 Ty.zr83 rfl rfl rfl rfl hS16 rfl ((hS16.cel_rd 0 rfl (o := 0) (m := 1) (k := 3) rfl (Nat.le_of_ble_eq_true rfl)).src) rfl (by omega) (by omega) (fun a19 c20 w18 hS18 => ?_)
  replace hS18 : St B (cel g17 [Value.slice a13 (0 + z.lb.l.length) c14, Value.int .i64 z.t, Value.int .u64 z.v] 83 :: _::_::_::_::own a19 (sl.length + 1) c20 83 3 ((sl.flatMap smc) ++ [Value.slice a13 (0 + z.lb.l.length) c14, Value.int .i64 z.t, Value.int .u64 z.v]) :: _::_::_::_::_::_::L) w18 := hS18
  clear hS16
  refine WO.asg rfl rfl ?_
  refine WO.nil (NX.blk (NX.go (WP.region rfl ?_)))
  refine WO.mv rfl rfl ?_
  refine WO.V (run_add rfl rfl (IntWalk.i64_in _ (by omega))) ?_
  refine WO.asg rfl rfl ?_
  refine WO.nil ?_
  have hS21 : St B (labA (⟨⟨a13, z.lb.l, c14⟩, z.t, z.v⟩ : Smp).lb :: _::_::_::_::_::_::_::_::_::_::_::L) w18 := rdH_own (own_eqM (hS18.permT [1] (L' := _::_::_::_::_::_::_::_::_::_::_::_::L) rfl) (by simp) (by simp))
  clear hS18
  have hS22 := smsA_snoc (s := (⟨⟨a13, z.lb.l, c14⟩, z.t, z.v⟩ : Smp)) (hS21.permT [6] (L' := _::_::_::_::_::_::_::_::_::_::_::_::L) rfl)
  clear hS21
  exact NX.again (i + 1, sl ++ [(⟨⟨a13, z.lb.l, c14⟩, z.t, z.v⟩ : Smp)], a19, c20) ⟨⟨by omega, by rw [take_snocM hz1, List.map_append, List.map_append, hsl]; rfl, by rw [List.length_append, hsn]; rfl⟩, own_eqM ((hS22.mask [true, false, false, false] (L' := _::_::_::_::_::_::_::_::L) rfl).permT [2, 0, 1, 1, 1, 1] (L' := _::_::_::_::_::_::_::_::L) rfl) (by simp) (by simp [smc])⟩ (by show r.ss.l.length - (i + 1) < r.ss.l.length - i; omega) (Sub.cons rfl (Sub.cons rfl (Sub.consE rfl (by simp) (Sub.consE rfl (by congr 1) (Sub.nil _)))))
 ·
  refine WP.exit (NX.thenExit (NX.thenExit ?_))
  refine NX.blkExit ?_
  refine NX.go (WP.seq (WP.region rfl ?_))
  refine WO.mv rfl rfl ?_
  refine WO.V (run_fa 1 ⟨g2, 1, none⟩ rfl rfl) ?_
  refine WO.store (l' := [Value.int .i64 r.k, Value.slice oa sl.length oc, Value.slice r.ms.a r.ms.l.length r.ms.cap, Value.int .i64 r.fr, Value.int .i64 r.to]) 3 hS5 rfl Ty.sz31 rfl rfl rfl rfl rfl (Nat.le_of_ble_eq_true rfl) rfl (fun w23 (hS23 : St B (_::_::_::cel g2 [Value.int .i64 r.k, Value.slice oa sl.length oc, Value.slice r.ms.a r.ms.l.length r.ms.cap, Value.int .i64 r.fr, Value.int .i64 r.to] 33 :: _::_::_::_::L) w23) => ?_)
  clear hS5
  refine WO.nil (NX.go (WP.seq (WP.region rfl ?_)))
  refine WO.buildSlice (l := []) hS23 Tryz.underlying24 rfl (fun w => by kernel_rfl) rfl (fun g25 w24 lg25 hS24 => ?_)
  clear hS23
  have hS24 := hS24.own_of_cel (m := 0) (k := 3) rfl
  refine WO.V (run_fa 2 ⟨g2, 2, none⟩ rfl rfl) ?_
  refine WO.V (run_load Ty.ag24 rfl ((hS24.cel_at 4 rfl 2).trans rfl)) ?_
  refine WO.append (news := (r.ms.l.flatMap mtc)) 0 rfl Tryz.underlying24 Tryz.underlying24 (fun _ h => by cases h) Ty.sz151 (by decide) Ty.by151 Ty.zr151 rfl rfl rfl rfl hS24 rfl ((rdH_rd (hS24.focus 6 rfl)).src) (flat_noAgg mtc_na _) (by omega) (by omega) (fun a27 c28 w26 hS26 => ?_)
  replace hS26 : St B (own a27 (0 + r.ms.l.length) c28 151 3 ([] ++ (r.ms.l.flatMap mtc)) :: _::_::_::_::_::_::_::_::L) w26 := hS26
  clear hS24
  refine WO.V (run_fa 2 ⟨g2, 2, none⟩ rfl rfl) ?_
  refine WO.store (l' := [Value.int .i64 r.k, Value.slice oa sl.length oc, Value.slice a27 (0 + r.ms.l.length) c28, Value.int .i64 r.fr, Value.int .i64 r.to]) 4 hS26 rfl Ty.sz24 rfl rfl rfl rfl rfl (Nat.le_of_ble_eq_true rfl) rfl (fun w29 (hS29 : St B (_::_::_::_::cel g2 [Value.int .i64 r.k, Value.slice oa sl.length oc, Value.slice a27 (0 + r.ms.l.length) c28, Value.int .i64 r.fr, Value.int .i64 r.to] 33 :: _::_::_::_::L) w29) => ?_)
  clear hS26
  refine WO.nil (NX.go (WP.seq (WP.region rfl ?_)))
  refine WO.V (run_loadAgg (vs := [Value.int .i64 r.k, Value.slice oa sl.length oc, Value.slice a27 (0 + r.ms.l.length) c28, Value.int .i64 r.fr, Value.int .i64 r.to]) Ty.ag33 Ty.sz33 rfl rfl (cell_all (hS29.cel_at 4 rfl) 0 rfl)) ?_
  refine WO.store (l' := [Value.int .i64 r.k, Value.slice oa sl.length oc, Value.slice a27 (0 + r.ms.l.length) c28, Value.int .i64 r.fr, Value.int .i64 r.to]) 3 hS29 rfl Ty.sz33 rfl rfl rfl rfl rfl (Nat.le_of_ble_eq_true rfl) rfl (fun w30 (hS30 : St B (_::_::_::cel g4 [Value.int .i64 r.k, Value.slice oa sl.length oc, Value.slice a27 (0 + r.ms.l.length) c28, Value.int .i64 r.fr, Value.int .i64 r.to] 33 :: _::_::_::_::_::L) w30) => ?_)
  clear hS29
  refine WO.nil (NX.go (WP.ret ?_))
  refine NX.doneC (l := [.cell 2 33]) rfl (.cons (.cell rfl (loadVar_agg (vs := [Value.int .i64 r.k, Value.slice oa sl.length oc, Value.slice a27 (0 + r.ms.l.length) c28, Value.int .i64 r.fr, Value.int .i64 r.to]) Ty.ag33 Ty.sz33 rfl (cell_all (hS30.cel_at 3 rfl) 0 rfl))) .nil) ?_
  have hq1 : St B (rdH (⟨r.k, ⟨oa, sl, oc⟩, ⟨a27, r.ms.l, c28⟩, r.fr, r.to⟩ : Rcd).ss.a (⟨r.k, ⟨oa, sl, oc⟩, ⟨a27, r.ms.l, c28⟩, r.fr, r.to⟩ : Rcd).ss.l.length 3 ((⟨r.k, ⟨oa, sl, oc⟩, ⟨a27, r.ms.l, c28⟩, r.fr, r.to⟩ : Rcd).ss.l.flatMap smc) :: _::_::_::_::_::_::_::_::L) w30 := rdH_own (hS30.permT [1] (L' := _::_::_::_::_::_::_::_::_::L) rfl)
  have hq2 : St B (rdH (⟨r.k, ⟨oa, sl, oc⟩, ⟨a27, r.ms.l, c28⟩, r.fr, r.to⟩ : Rcd).ms.a (⟨r.k, ⟨oa, sl, oc⟩, ⟨a27, r.ms.l, c28⟩, r.fr, r.to⟩ : Rcd).ms.l.length 3 ((⟨r.k, ⟨oa, sl, oc⟩, ⟨a27, r.ms.l, c28⟩, r.fr, r.to⟩ : Rcd).ms.l.flatMap mtc) :: _::_::_::_::_::_::_::_::L) w30 := rdH_own (own_eqM (hq1.permT [1] (L' := _::_::_::_::_::_::_::_::_::L) rfl) (by simp) (by simp))
  have hq3 := (((hq2.mask [true, true, true, false, false, false, false, false] (L' := _::_::_::_::L) rfl).permT [0, 1] (L' := _::_::_::_::L) rfl)).join
  have hq4 := (hq3.permT [1, 0, 0] (L' := _::_::_::L) rfl).join
  have htk : r.ss.l.take i = r.ss.l := List.take_of_length_le (by omega)
  exact ⟨(⟨r.k, ⟨oa, sl, oc⟩, ⟨a27, r.ms.l, c28⟩, r.fr, r.to⟩ : Rcd), by simp [rcc, one]; try omega, by show RcP.mk _ _ _ _ _ = RcP.mk _ _ _ _ _; rw [show (⟨r.k, ⟨oa, sl, oc⟩, ⟨a27, r.ms.l, c28⟩, r.fr, r.to⟩ : Rcd).ss.l.map Smp.p = r.ss.l.map Smp.p by rw [← htk]; exact hsl], hq4⟩
end Go.Proofs.YtidoidoelgfnaaaGreatDoor.SL

/- Blocks that are too much. -/
namespace Go.Proofs.YtidoidoelgfnaaaGreatDoor.SL
open Go.RowKit Go.Proofs.YtidoidoelgfnaaaGreatDoor
open Go.Proofs.YtidoidoelgfnaaaGreatDoorW.PrintLast (rtab opsOf)
set_option linter.unusedVariables false
set_option linter.unusedSimpArgs false

def wsum : List MRow → Nat
  | [] => 0
  | r :: l => 10 * r.lb.l.length + r.pt.l.length + wsum l
def wgt (b : BlkV) : Nat := wsum b.rs.l + b.ds.l.length
theorem upto_next {α : Type} {P : α → Prop} {l : List α} {i : Nat} {x : α} (h : ∀ j b, j < i → l[j]? = some b → P b) (hx : l[i]? = some x) (hp : P x) : ∀ j b, j < i + 1 → l[j]? = some b → P b := fun j b hj hb => by
  rcases Nat.lt_or_ge j i with c | c
  · exact h j b c hb
  · have e : j = i := by omega
    subst e; rw [hx] at hb; cases hb; exact hp
end Go.Proofs.YtidoidoelgfnaaaGreatDoor.SL

/- The program's block of the document's. -/
namespace Go.Proofs.YtidoidoelgfnaaaGreatDoor.SL
open Go.RowKit Go.Proofs.YtidoidoelgfnaaaGreatDoor
open Go.Proofs.YtidoidoelgfnaaaGreatDoorW.PrintLast (rtab opsOf)
set_option linter.unusedVariables false
set_option linter.unusedSimpArgs false
end Go.Proofs.YtidoidoelgfnaaaGreatDoor.SL
