import Derived.Test.YtidoidoelgfnaaaGreatDoorKrmM
import Derived.Test.YtidoidoelgfnaaaGreatDoorKcl
/- Records that are too much. -/
namespace Go.Proofs.YtidoidoelgfnaaaGreatDoor.SL
open Go.RowKit Go.Proofs.YtidoidoelgfnaaaGreatDoor
open Go.Proofs.YtidoidoelgfnaaaGreatDoorW.PrintLast (rtab opsOf)
set_option linter.unusedVariables false
set_option linter.unusedSimpArgs false
theorem t14_9 : rtab .any (opsOf Tryz.f14 9) = (true, [([], []), ([], []), ([1], [1]), ([], []), ([2, 3], [2, 3]), ([4], [4]), ([5], [5]), ([], []), ([6, 7], [6, 7]), ([8], [8]), ([9], [9]), ([10], [10]), ([11], [11]), ([0, 12], [0, 12]), ([], []), ([14], [14]), ([], []), ([15, 16], [15, 16]), ([17], [17]), ([18], [18]), ([], []), ([19, 20], [19, 20]), ([21], [21]), ([22], [22]), ([23], [23]), ([24], [24]), ([13, 25], [13, 25]), ([26, 0, 1, 2, 3, 4, 5, 6, 7, 8, 9, 10, 11, 12, 13, 14, 15, 16, 17, 18, 19, 20, 21, 22, 23, 24, 25, 26], [0, 26])]) := by kernel_rfl
theorem g12_spec {B w : World} {L : List HP} (r : Rcd) (hz : SzR r) (hS : St B (recA r :: L) w) : Does Tryz.prog 14 [Value.agg #[Value.int .i64 r.k, Value.slice r.ss.a r.ss.l.length r.ss.cap, Value.slice r.ms.a r.ms.l.length r.ms.cap, Value.int .i64 r.fr, Value.int .i64 r.to]] w (fun v w1 => (∃ b, v = .bool b) ∧ St B (recA r :: L) w1) := by
 replace hS := recA_open hS
 have hns := hz.ns
 have hnm := hz.nm
 refine enter (n := 74) Tryz.func14 rfl rfl [Value.agg #[Value.int .i64 r.k, Value.slice r.ss.a r.ss.l.length r.ss.cap, Value.slice r.ms.a r.ms.l.length r.ms.cap, Value.int .i64 r.fr, Value.int .i64 r.to]] rfl ?_
 refine WP.seq (WP.region rfl ?_)
 refine WO.box (l := (rcc r)) hS rfl rfl rfl (fun g2 w1 lg2 hS1 => ?_)
 clear hS
 refine WO.asg rfl rfl ?_
 refine WO.nil (NX.go (WP.seq (WP.region rfl ?_)))
 refine WO.V (run_fa 2 ⟨g2, 2, none⟩ rfl rfl) ?_
 refine WO.V (run_load Ty.ag24 rfl ((hS1.cel_at 0 rfl 2).trans rfl)) ?_
 refine WO.V (run_len rfl Tryz.underlying24 rfl) ?_
 refine WO.asg rfl rfl ?_
 refine WO.nil (NX.go (WP.seq (WP.seq (WP.region rfl ?_))))
 refine WO.asg rfl rfl ?_
 refine WO.nil (NX.go (WP.block ?_))
 refine WP.loop (α := Nat × Int) (fun x => match x with | ⟨i, n⟩ => [(0, Value.agg #[Value.int .i64 r.k, Value.slice r.ss.a r.ss.l.length r.ss.cap, Value.slice r.ms.a r.ms.l.length r.ms.cap, Value.int .i64 r.fr, Value.int .i64 r.to]), (1, Value.pointer (some ⟨g2, 0, none⟩)), (3, Value.int .i64 n), (4, Value.int .i64 (i : Int))]) (fun x w => match x with | ⟨i, n⟩ => (i ≤ r.ss.l.length) ∧ St B (cel g2 (rcc r) 33 :: (rdH r.ss.a r.ss.l.length 3 (r.ss.l.flatMap smc)) :: (rdH r.ms.a r.ms.l.length 3 (r.ms.l.flatMap mtc)) :: smsA r.ss.l :: recA r :: L) w) (fun x => match x with | ⟨i, n⟩ => r.ss.l.length - i) (0, ((r.ms.l.length : Nat) : Int)) ⟨Nat.zero_le _, hS1⟩ (Sub.cons rfl (Sub.cons rfl (Sub.consE rfl (by first | rfl | first | rfl | (congr 1; omega) | (simp; done) | (simp; omega)) (Sub.consE rfl (by first | rfl | first | rfl | (congr 1; omega) | (simp; done) | (simp; omega)) (Sub.nil _))))) ?_
 rintro ⟨i, n⟩ w3 ⟨hi, hS3⟩
 clear hS1
 refine WP.seq (WP.seq (WP.region rfl ?_))
 refine WO.mv rfl rfl ?_
 refine WO.V (run_fa 1 ⟨g2, 1, none⟩ rfl rfl) ?_
 refine WO.V (run_load Ty.ag31 rfl ((hS3.cel_at 0 rfl 1).trans rfl)) ?_
 refine WO.V (run_len rfl Tryz.underlying31 rfl) ?_
 refine WO.V (run_lss rfl rfl) ?_
 refine WO.mv rfl rfl ?_
 refine dcase (p := (i : Int) < ((r.ss.l.length : Nat) : Int)) (fun g14 d14 => ?_) (fun g14 d14 => ?_)
 ·
  refine WO.on rfl rfl d14 ?_
  refine WO.mv rfl rfl ?_
  refine WO.on rfl rfl d14 ?_
  refine WO.V (run_lss rfl rfl) ?_
  refine WO.V (run_pickT rfl d14 rfl) ?_
  refine WO.nil (NX.go ?_)
  refine WP.condP rfl (fun g17 => ?_) (fun g17 => ?_)
  ·
   refine WP.skip (NX.go (WP.seq (WP.block (WP.seq ?_))))
   obtain ⟨z, hz1⟩ : ∃ qq, r.ss.l[i]? = some qq := ⟨_, List.getElem?_eq_getElem (by omega)⟩
   have hsa : r.ss.a.isSome = true := rd_isSome ((rdH_rd (hS3.focus 1 rfl))) (by omega)
   have hS4 := smsA_get hz1 (hS3.permT [3] (L' := smsA r.ss.l :: cel g2 (rcc r) 33 :: (rdH r.ss.a r.ss.l.length 3 (r.ss.l.flatMap smc)) :: (rdH r.ms.a r.ms.l.length 3 (r.ms.l.flatMap mtc)) :: recA r :: L) rfl)
   clear hS3
   have hzz := hz.s z (List.mem_of_getElem? hz1)
   refine WP.region rfl ?_
   refine WO.mv rfl rfl ?_
   refine WO.V (run_add rfl rfl rfl) ?_
   refine WO.V (run_fa 1 ⟨g2, 1, none⟩ rfl rfl) ?_
   refine WO.V (run_load Ty.ag31 rfl ((hS4.cel_at 2 rfl 1).trans rfl)) ?_
   refine WO.mv rfl rfl ?_
   refine WO.V (run_indexAddr (q := adr r.ss.a (i * 3)) Tryz.underlying31 Ty.sz83 rfl rfl (by omega) (by omega) ((rdH_rd (hS4.focus 3 rfl)).2.1 (by omega)) rfl) ?_
   refine WO.V (run_fa 0 (adr r.ss.a (i * 3 + 0)) rfl (adr_add _ (by assumption) _ _)) ?_
   refine WO.V (run_load Ty.ag65 rfl ((rdH_rd (hS4.focus 3 rfl)).cell ((flat_get smc_len hz1 (j := 0) (by decide)).trans rfl))) ?_
   refine WO.V (run_len rfl Tryz.underlying65 rfl) ?_
   refine WO.V (run_add rfl rfl rfl) ?_
   refine WO.asg rfl rfl ?_
   refine WO.nil (NX.go (WP.seq (WP.region rfl ?_)))
   refine WO.asg rfl rfl ?_
   refine WO.nil (NX.go (WP.block ?_))
   refine WP.loop (α := Nat × Int) (fun x => match x with | ⟨k, n⟩ => [(0, Value.agg #[Value.int .i64 r.k, Value.slice r.ss.a r.ss.l.length r.ss.cap, Value.slice r.ms.a r.ms.l.length r.ms.cap, Value.int .i64 r.fr, Value.int .i64 r.to]), (1, Value.pointer (some ⟨g2, 0, none⟩)), (3, Value.int .i64 n), (4, Value.int .i64 (i : Int)), (5, Value.int .i64 (k : Int))]) (fun x w => match x with | ⟨k, n⟩ => (k ≤ z.lb.l.length) ∧ St B (cel g2 (rcc r) 33 :: (rdH r.ss.a r.ss.l.length 3 (r.ss.l.flatMap smc)) :: (rdH r.ms.a r.ms.l.length 3 (r.ms.l.flatMap mtc)) :: (labA z.lb) :: smsA r.ss.l :: recA r :: L) w) (fun x => match x with | ⟨k, n⟩ => z.lb.l.length - k) (0, IntKind.i64.wrap ((IntKind.i64.wrap (n + 1)) + ((z.lb.l.length : Nat) : Int))) ⟨Nat.zero_le _, (hS4.permT [2, 2, 2] (L' := cel g2 (rcc r) 33 :: (rdH r.ss.a r.ss.l.length 3 (r.ss.l.flatMap smc)) :: (rdH r.ms.a r.ms.l.length 3 (r.ms.l.flatMap mtc)) :: (labA z.lb) :: smsA r.ss.l :: recA r :: L) rfl)⟩ (Sub.cons rfl (Sub.cons rfl (Sub.consE rfl (by first | rfl | first | rfl | (congr 1; omega) | (simp; done) | (simp; omega)) (Sub.cons rfl (Sub.consE rfl (by first | rfl | first | rfl | (congr 1; omega) | (simp; done) | (simp; omega)) (Sub.nil _)))))) ?_
   rintro ⟨k, n⟩ w5 ⟨hk, hS5⟩
   clear hS4
   refine WP.seq (WP.seq (WP.region rfl ?_))
   refine WO.mv rfl rfl ?_
   refine WO.V (run_fa 1 ⟨g2, 1, none⟩ rfl rfl) ?_
   refine WO.V (run_load Ty.ag31 rfl ((hS5.cel_at 0 rfl 1).trans rfl)) ?_
   refine WO.mv rfl rfl ?_
   refine WO.V (run_indexAddr (q := adr r.ss.a (i * 3)) Tryz.underlying31 Ty.sz83 rfl rfl (by omega) (by omega) ((rdH_rd (hS5.focus 1 rfl)).2.1 (by omega)) rfl) ?_
   refine WO.V (run_fa 0 (adr r.ss.a (i * 3 + 0)) rfl (adr_add _ (by assumption) _ _)) ?_
   refine WO.V (run_load Ty.ag65 rfl ((rdH_rd (hS5.focus 1 rfl)).cell ((flat_get smc_len hz1 (j := 0) (by decide)).trans rfl))) ?_
   refine WO.V (run_len rfl Tryz.underlying65 rfl) ?_
   refine WO.V (run_lss rfl rfl) ?_
   refine WO.mv rfl rfl ?_
   refine dcase (p := (k : Int) < ((z.lb.l.length : Nat) : Int)) (fun g39 d39 => ?_) (fun g39 d39 => ?_)
   ·
    refine WO.on rfl rfl d39 ?_
    refine WO.mv rfl rfl ?_
    refine WO.on rfl rfl d39 ?_
    refine WO.V (run_lss rfl rfl) ?_
    refine WO.V (run_pickT rfl d39 rfl) ?_
    refine WO.nil (NX.go ?_)
    refine WP.condP rfl (fun g42 => ?_) (fun g42 => ?_)
    ·
     refine WP.skip (NX.go (WP.seq (WP.block ?_)))
     obtain ⟨p, hp⟩ : ∃ qq, z.lb.l[k]? = some qq := ⟨_, List.getElem?_eq_getElem (by omega)⟩
     have hsp : z.lb.a.isSome = true := rd_isSome ((rdH_rd (hS5.focus 3 rfl))) (by omega)
     have hpz := hzz.2 p (List.mem_of_getElem? hp)
     refine WD.start (fun w => (∀ jz, World.cell? w ⟨g2, jz, none⟩ = (rcc r)[jz]?) ∧ Rd w r.ss.a r.ss.l.length 3 (r.ss.l.flatMap smc) ∧ Rd w r.ms.a r.ms.l.length 3 (r.ms.l.flatMap mtc) ∧ Rd w z.lb.a z.lb.l.length 2 (z.lb.l.flatMap prc)) [] (bt 28 0) Ty.mo rfl (by kernel_rfl) hS5 (fun _ h => ⟨h.cel_at 0 rfl, (rdH_rd (h.focus 1 rfl)), (rdH_rd (h.focus 2 rfl)), (rdH_rd (h.focus 3 rfl))⟩) (fun w6 hS6 s7 => ?_)
     clear hS5
     refine DP (i := 0) t14_9 (bt 28 1) rfl rfl rfl rfl (fun w => run_move rfl) ?_
     refine DP (i := 1) t14_9 (bt 28 3) rfl rfl rfl rfl (fun w => run_fa 1 ⟨g2, 1, none⟩ rfl rfl) ?_
     refine DT (i := 2) t14_9 (bt 28 7) s7 rfl rfl rfl rfl (fun w hs => run_load Ty.ag31 rfl ((hs.1 1).trans rfl)) ?_
     refine DP (i := 3) t14_9 (bt 28 15) rfl rfl rfl rfl (fun w => run_move rfl) ?_
     refine DT (i := 4) t14_9 (bt 28 31) s7 rfl rfl rfl rfl (fun w hs => run_indexAddr (q := adr r.ss.a (i * 3)) Tryz.underlying31 Ty.sz83 rfl rfl (by omega) (by omega) ((hs.2.1).2.1 (by omega)) rfl) ?_
     refine DP (i := 5) t14_9 (bt 28 63) rfl rfl rfl rfl (fun w => run_fa 0 (adr r.ss.a (i * 3 + 0)) rfl (adr_add _ (by assumption) _ _)) ?_
     refine DT (i := 6) t14_9 (bt 28 127) s7 rfl rfl rfl rfl (fun w hs => run_load Ty.ag65 rfl ((hs.2.1).cell ((flat_get smc_len hz1 (j := 0) (by decide)).trans rfl))) ?_
     refine DP (i := 7) t14_9 (bt 28 255) rfl rfl rfl rfl (fun w => run_move rfl) ?_
     refine DT (i := 8) t14_9 (bt 28 511) s7 rfl rfl rfl rfl (fun w hs => run_indexAddr (q := adr z.lb.a (k * 2)) Tryz.underlying65 Ty.sz105 rfl rfl (by omega) (by omega) ((hs.2.2.2).2.1 (by omega)) rfl) ?_
     refine DP (i := 9) t14_9 (bt 28 1023) rfl rfl rfl rfl (fun w => run_fa 0 (adr z.lb.a (k * 2 + 0)) rfl (adr_add _ (by assumption) _ _)) ?_
     refine DT (i := 10) t14_9 (bt 28 2047) s7 rfl rfl rfl rfl (fun w hs => run_load Ty.ag9 rfl ((hs.2.2.2).cell ((flat_get prc_len hp (j := 0) (by decide)).trans rfl))) ?_
     refine DP (i := 11) t14_9 (bt 28 4095) rfl rfl rfl rfl (fun w => run_lenS rfl Tryz.underlying9 rfl) ?_
     refine DP (i := 12) t14_9 (bt 28 8191) rfl rfl rfl rfl (fun w => run_quo rfl rfl (by omega) (quo_i64 (by omega))) ?_
     refine DP (i := 13) t14_9 (bt 28 16383) rfl rfl rfl rfl (fun w => run_add rfl rfl rfl) ?_
     refine DP (i := 14) t14_9 (bt 28 32767) rfl rfl rfl rfl (fun w => run_fa 1 ⟨g2, 1, none⟩ rfl rfl) ?_
     refine DT (i := 15) t14_9 (bt 28 65535) s7 rfl rfl rfl rfl (fun w hs => run_load Ty.ag31 rfl ((hs.1 1).trans rfl)) ?_
     refine DP (i := 16) t14_9 (bt 28 131071) rfl rfl rfl rfl (fun w => run_move rfl) ?_
     refine DT (i := 17) t14_9 (bt 28 262143) s7 rfl rfl rfl rfl (fun w hs => run_indexAddr (q := adr r.ss.a (i * 3)) Tryz.underlying31 Ty.sz83 rfl rfl (by omega) (by omega) ((hs.2.1).2.1 (by omega)) rfl) ?_
     refine DP (i := 18) t14_9 (bt 28 524287) rfl rfl rfl rfl (fun w => run_fa 0 (adr r.ss.a (i * 3 + 0)) rfl (adr_add _ (by assumption) _ _)) ?_
     refine DT (i := 19) t14_9 (bt 28 1048575) s7 rfl rfl rfl rfl (fun w hs => run_load Ty.ag65 rfl ((hs.2.1).cell ((flat_get smc_len hz1 (j := 0) (by decide)).trans rfl))) ?_
     refine DP (i := 20) t14_9 (bt 28 2097151) rfl rfl rfl rfl (fun w => run_move rfl) ?_
     refine DT (i := 21) t14_9 (bt 28 4194303) s7 rfl rfl rfl rfl (fun w hs => run_indexAddr (q := adr z.lb.a (k * 2)) Tryz.underlying65 Ty.sz105 rfl rfl (by omega) (by omega) ((hs.2.2.2).2.1 (by omega)) rfl) ?_
     refine DP (i := 22) t14_9 (bt 28 8388607) rfl rfl rfl rfl (fun w => run_fa 1 (adr z.lb.a (k * 2 + 1)) rfl (adr_add _ (by assumption) _ _)) ?_
     refine DT (i := 23) t14_9 (bt 28 16777215) s7 rfl rfl rfl rfl (fun w hs => run_load Ty.ag9 rfl ((hs.2.2.2).cell ((flat_get prc_len hp (j := 1) (by decide)).trans rfl))) ?_
     refine DP (i := 24) t14_9 (bt 28 33554431) rfl rfl rfl rfl (fun w => run_lenS rfl Tryz.underlying9 rfl) ?_
     refine DP (i := 25) t14_9 (bt 28 67108863) rfl rfl rfl rfl (fun w => run_quo rfl rfl (by omega) (quo_i64 (by omega))) ?_
     refine DP (i := 26) t14_9 (bt 28 134217727) rfl rfl rfl rfl (fun w => run_add rfl rfl rfl) ?_
     refine DP (i := 27) t14_9 (bt 28 268435455) rfl rfl rfl rfl (fun w => run_assign rfl) ?_
     refine WD.done t14_9 (by kernel_rfl) ?_
     refine NX.blk (NX.go (WP.region rfl ?_))
     refine WO.mv rfl rfl ?_
     refine WO.V (run_add rfl rfl (IntWalk.i64_in _ (by omega))) ?_
     refine WO.asg rfl rfl ?_
     refine WO.nil ?_
     exact NX.again (k + 1, IntKind.i64.wrap ((IntKind.i64.wrap (n + ((p.n.length : Int) / 100))) + ((p.v.length : Int) / 100))) ⟨by omega, hS6⟩ (by show z.lb.l.length - (k + 1) < z.lb.l.length - k; omega) (Sub.cons rfl (Sub.cons rfl (Sub.consE rfl (by first | rfl | (congr 1; omega) | (simp; done) | (simp; omega)) (Sub.cons rfl (Sub.consE rfl (by congr 1) (Sub.nil _))))))
    ·
     refine WP.exit (NX.thenExit (NX.thenExit ?_))
     refine NX.blkExit ?_
     refine NX.blk (NX.go (WP.region rfl ?_))
     refine WO.mv rfl rfl ?_
     refine WO.V (run_add rfl rfl (IntWalk.i64_in _ (by omega))) ?_
     refine WO.asg rfl rfl ?_
     refine WO.nil ?_
     exact NX.again (i + 1, n) ⟨by omega, (hS5.mask [true, true, true, false] (L' := cel g2 (rcc r) 33 :: (rdH r.ss.a r.ss.l.length 3 (r.ss.l.flatMap smc)) :: (rdH r.ms.a r.ms.l.length 3 (r.ms.l.flatMap mtc)) :: smsA r.ss.l :: recA r :: L) rfl)⟩ (by show r.ss.l.length - (i + 1) < r.ss.l.length - i; omega) (Sub.cons rfl (Sub.cons rfl (Sub.consE rfl (by first | rfl | (congr 1; omega) | (simp; done) | (simp; omega)) (Sub.consE rfl (by congr 1) (Sub.nil _)))))
   ·
    refine WO.off rfl rfl d39 rfl ?_
    refine WO.off rfl rfl d39 rfl ?_
    refine WO.V (run_pickF rfl d39 rfl) ?_
    refine WO.nil (NX.go ?_)
    refine WP.condF rfl rfl ?_
    refine WP.exit (NX.thenExit (NX.thenExit ?_))
    refine NX.blkExit ?_
    refine NX.blk (NX.go (WP.region rfl ?_))
    refine WO.mv rfl rfl ?_
    refine WO.V (run_add rfl rfl (IntWalk.i64_in _ (by omega))) ?_
    refine WO.asg rfl rfl ?_
    refine WO.nil ?_
    exact NX.again (i + 1, n) ⟨by omega, (hS5.mask [true, true, true, false] (L' := cel g2 (rcc r) 33 :: (rdH r.ss.a r.ss.l.length 3 (r.ss.l.flatMap smc)) :: (rdH r.ms.a r.ms.l.length 3 (r.ms.l.flatMap mtc)) :: smsA r.ss.l :: recA r :: L) rfl)⟩ (by show r.ss.l.length - (i + 1) < r.ss.l.length - i; omega) (Sub.cons rfl (Sub.cons rfl (Sub.consE rfl (by first | rfl | (congr 1; omega) | (simp; done) | (simp; omega)) (Sub.consE rfl (by congr 1) (Sub.nil _)))))
  ·
   refine WP.exit (NX.thenExit (NX.thenExit ?_))
   refine NX.blkExit ?_
   refine NX.go (WP.seq (WP.region rfl ?_))
   refine WO.mv rfl rfl ?_
   refine WO.V (run_geq rfl rfl) ?_
   refine WO.asg rfl rfl ?_
   refine WO.nil (NX.go (WP.ret ?_))
   refine NX.done (l := [.tmp 2]) rfl rfl ?_
   exact ⟨⟨_, rfl⟩, hS3.drop.drop.drop.drop⟩
 ·
  refine WO.off rfl rfl d14 rfl ?_
  refine WO.off rfl rfl d14 rfl ?_
  refine WO.V (run_pickF rfl d14 rfl) ?_
  refine WO.nil (NX.go ?_)
  refine WP.condF rfl rfl ?_
  refine WP.exit (NX.thenExit (NX.thenExit ?_))
  refine NX.blkExit ?_
  refine NX.go (WP.seq (WP.region rfl ?_))
  refine WO.mv rfl rfl ?_
  refine WO.V (run_geq rfl rfl) ?_
  refine WO.asg rfl rfl ?_
  refine WO.nil (NX.go (WP.ret ?_))
  refine NX.done (l := [.tmp 2]) rfl rfl ?_
  exact ⟨⟨_, rfl⟩, hS3.drop.drop.drop.drop⟩
end Go.Proofs.YtidoidoelgfnaaaGreatDoor.SL

/- Records that share nothing. -/
namespace Go.Proofs.YtidoidoelgfnaaaGreatDoor.SL
open Go.RowKit Go.Proofs.YtidoidoelgfnaaaGreatDoor
open Go.Proofs.YtidoidoelgfnaaaGreatDoorW.PrintLast (rtab opsOf)
set_option linter.unusedVariables false
set_option linter.unusedSimpArgs false

theorem take_snocM {α : Type} {l : List α} {i : Nat} {x : α} (h : l[i]? = some x) : l.take (i + 1) = l.take i ++ [x] := by
  rw [List.take_add_one, h]; rfl
theorem own12_spec {B w : World} {L : List HP} (r : Rcd) (hz : SzR r) (hS : St B (recA r :: L) w) : Does Tryz.prog 16 [Value.agg #[Value.int .i64 r.k, Value.slice r.ss.a r.ss.l.length r.ss.cap, Value.slice r.ms.a r.ms.l.length r.ms.cap, Value.int .i64 r.fr, Value.int .i64 r.to]] w (fun v w1 => ∃ r1 : Rcd, v = .agg (rcc r1).toArray ∧ r1.p = r.p ∧ St B (recA r1 :: recA r :: L) w1) := by
 replace hS := recA_open hS
 have hns := hz.ns
 have hnm := hz.nm
 refine enter (n := 35) Tryz.func16 rfl rfl [Value.agg #[Value.int .i64 r.k, Value.slice r.ss.a r.ss.l.length r.ss.cap, Value.slice r.ms.a r.ms.l.length r.ms.cap, Value.int .i64 r.fr, Value.int .i64 r.to]] rfl ?_
 refine WP.seq (WP.region rfl ?_)
 refine WO.box (l := (rcc r)) hS rfl rfl rfl (fun g2 w1 lg2 hS1 => ?_)
 clear hS
 refine WO.alloc (l := [Value.int .i64 0, Value.slice none 0 0, Value.slice none 0 0, Value.int .i64 0, Value.int .i64 0]) hS1 Ty.zr33 rfl rfl (fun g4 w3 lg4 hS3 => ?_)
 clear hS1
 refine WO.nil (NX.go (WP.seq (WP.region rfl ?_)))
 refine WO.asg rfl rfl ?_
 refine WO.nil (NX.go (WP.seq (WP.seq (WP.region rfl ?_))))
 refine WO.asg rfl rfl ?_
 refine WO.nil (NX.go (WP.block ?_))
 replace hS3 := (St.addPure trivial hS3 : St B (smsA [] :: cel g4 [Value.int .i64 0, Value.slice none 0 0, Value.slice none 0 0, Value.int .i64 0, Value.int .i64 0] 33 :: cel g2 (rcc r) 33 :: (rdH r.ss.a r.ss.l.length 3 (r.ss.l.flatMap smc)) :: (rdH r.ms.a r.ms.l.length 3 (r.ms.l.flatMap mtc)) :: smsA r.ss.l :: recA r :: L) w3)
 replace hS3 := hS3.own_nil 83 3
 refine WP.loop (α := Nat × List Smp × Option Addr × Nat) (fun x => match x with | ⟨i, sl, oa, oc⟩ => [(1, Value.pointer (some ⟨g2, 0, none⟩)), (2, Value.pointer (some ⟨g4, 0, none⟩)), (3, Value.slice oa sl.length oc), (4, Value.int .i64 (i : Int))]) (fun x w => match x with | ⟨i, sl, oa, oc⟩ => (i ≤ r.ss.l.length ∧ sl.map Smp.p = (r.ss.l.take i).map Smp.p ∧ sl.length = i) ∧ St B (own oa sl.length oc 83 3 (sl.flatMap smc) :: smsA sl :: cel g4 [Value.int .i64 0, Value.slice none 0 0, Value.slice none 0 0, Value.int .i64 0, Value.int .i64 0] 33 :: cel g2 (rcc r) 33 :: (rdH r.ss.a r.ss.l.length 3 (r.ss.l.flatMap smc)) :: (rdH r.ms.a r.ms.l.length 3 (r.ms.l.flatMap mtc)) :: smsA r.ss.l :: recA r :: L) w) (fun x => match x with | ⟨i, sl, oa, oc⟩ => r.ss.l.length - i) (0, [], none, 0) ⟨⟨Nat.zero_le _, rfl, rfl⟩, hS3⟩ (Sub.cons rfl (Sub.cons rfl (Sub.consE rfl (by first | rfl | first | rfl | (congr 1; omega) | (simp; done) | (simp; omega)) (Sub.consE rfl (by first | rfl | first | rfl | (congr 1; omega) | (simp; done) | (simp; omega)) (Sub.nil _))))) ?_
 rintro ⟨i, sl, oa, oc⟩ w5 ⟨⟨hi, hsl, hsn⟩, hS5⟩
 clear hS3
 refine WP.seq (WP.seq (WP.region rfl ?_))
 refine WO.mv rfl rfl ?_
 refine WO.V (run_fa 1 ⟨g2, 1, none⟩ rfl rfl) ?_
 refine WO.V (run_load Ty.ag31 rfl ((hS5.cel_at 3 rfl 1).trans rfl)) ?_
 refine WO.V (run_len rfl Tryz.underlying31 rfl) ?_
 refine WO.V (run_lss rfl rfl) ?_
 refine WO.nil (NX.go ?_)
 refine WP.condP rfl (fun g10 => ?_) (fun g10 => ?_)
 ·
  refine WP.skip (NX.go (WP.seq (WP.block (WP.seq ?_))))
  obtain ⟨z, hz1⟩ : ∃ qq, r.ss.l[i]? = some qq := ⟨_, List.getElem?_eq_getElem (by omega)⟩
  have hsa : r.ss.a.isSome = true := rd_isSome ((rdH_rd (hS5.focus 4 rfl))) (by omega)
  have hS6 := smsA_get hz1 (hS5.permT [6] (L' := smsA r.ss.l :: own oa sl.length oc 83 3 (sl.flatMap smc) :: smsA sl :: cel g4 [Value.int .i64 0, Value.slice none 0 0, Value.slice none 0 0, Value.int .i64 0, Value.int .i64 0] 33 :: cel g2 (rcc r) 33 :: (rdH r.ss.a r.ss.l.length 3 (r.ss.l.flatMap smc)) :: (rdH r.ms.a r.ms.l.length 3 (r.ms.l.flatMap mtc)) :: recA r :: L) rfl)
  clear hS5
  have hzz := hz.s z (List.mem_of_getElem? hz1)
  refine WP.region rfl ?_
  refine WO.V (run_fa 1 ⟨g2, 1, none⟩ rfl rfl) ?_
  refine WO.V (run_load Ty.ag31 rfl ((hS6.cel_at 5 rfl 1).trans rfl)) ?_
  refine WO.mv rfl rfl ?_
  refine WO.V (run_indexAddr (q := adr r.ss.a (i * 3)) Tryz.underlying31 Ty.sz83 rfl rfl (by omega) (by omega) ((rdH_rd (hS6.focus 6 rfl)).2.1 (by omega)) rfl) ?_
  refine WO.V (run_loadAgg (vs := (smc z)) Ty.ag83 Ty.sz83 rfl ((rdH_rd (hS6.focus 6 rfl)).cells (by rw [flat_len smc_len]; omega) (flat_part smc_len hz1)).1 ((rdH_rd (hS6.focus 6 rfl)).cells (by rw [flat_len smc_len]; omega) (flat_part smc_len hz1)).2) ?_
  refine WO.alloc (l := [Value.slice none 0 0, Value.int .i64 0, Value.int .u64 0]) hS6 Ty.zr83 rfl rfl (fun g8 w7 lg8 hS7 => ?_)
  clear hS6
  refine WO.store (l' := (smc z)) 0 hS7 rfl Ty.sz83 rfl rfl rfl rfl rfl (Nat.le_of_ble_eq_true rfl) rfl (fun w9 (hS9 : St B (cel g8 (smc z) 83 :: (labA z.lb) :: smsA r.ss.l :: own oa sl.length oc 83 3 (sl.flatMap smc) :: smsA sl :: cel g4 [Value.int .i64 0, Value.slice none 0 0, Value.slice none 0 0, Value.int .i64 0, Value.int .i64 0] 33 :: cel g2 (rcc r) 33 :: (rdH r.ss.a r.ss.l.length 3 (r.ss.l.flatMap smc)) :: (rdH r.ms.a r.ms.l.length 3 (r.ms.l.flatMap mtc)) :: recA r :: L) w9) => ?_)
  clear hS7
  refine WO.nil (NX.go (WP.seq (WP.region rfl ?_)))
  refine WO.buildSlice (l := []) hS9 Tryz.underlying65 rfl (fun w => by kernel_rfl) rfl (fun g11 w10 lg11 hS10 => ?_)
  clear hS9
  have hS10 := hS10.own_of_cel (m := 0) (k := 2) rfl
  refine WO.V (run_fa 0 ⟨g8, 0, none⟩ rfl rfl) ?_
  refine WO.V (run_load Ty.ag65 rfl ((hS10.cel_at 1 rfl 0).trans rfl)) ?_
  refine WO.append (news := (z.lb.l.flatMap prc)) 0 rfl Tryz.underlying65 Tryz.underlying65 (fun _ h => by cases h) Ty.sz105 (by decide) Ty.by105 Ty.zr105 rfl rfl rfl rfl hS10 rfl ((rdH_rd (hS10.focus 2 rfl)).src) (flat_noAgg prc_na _) (by omega) (by omega) (fun a13 c14 w12 hS12 => ?_)
  replace hS12 : St B (own a13 (0 + z.lb.l.length) c14 105 2 ([] ++ (z.lb.l.flatMap prc)) :: cel g8 (smc z) 83 :: (labA z.lb) :: smsA r.ss.l :: own oa sl.length oc 83 3 (sl.flatMap smc) :: smsA sl :: cel g4 [Value.int .i64 0, Value.slice none 0 0, Value.slice none 0 0, Value.int .i64 0, Value.int .i64 0] 33 :: cel g2 (rcc r) 33 :: (rdH r.ss.a r.ss.l.length 3 (r.ss.l.flatMap smc)) :: (rdH r.ms.a r.ms.l.length 3 (r.ms.l.flatMap mtc)) :: recA r :: L) w12 := hS12
  clear hS10
  refine WO.V (run_fa 0 ⟨g8, 0, none⟩ rfl rfl) ?_
  refine WO.store (l' := [Value.slice a13 (0 + z.lb.l.length) c14, Value.int .i64 z.t, Value.int .u64 z.v]) 1 hS12 rfl Ty.sz65 rfl rfl rfl rfl rfl (Nat.le_of_ble_eq_true rfl) rfl (fun w15 (hS15 : St B (own a13 (0 + z.lb.l.length) c14 105 2 ([] ++ (z.lb.l.flatMap prc)) :: cel g8 [Value.slice a13 (0 + z.lb.l.length) c14, Value.int .i64 z.t, Value.int .u64 z.v] 83 :: (labA z.lb) :: smsA r.ss.l :: own oa sl.length oc 83 3 (sl.flatMap smc) :: smsA sl :: cel g4 [Value.int .i64 0, Value.slice none 0 0, Value.slice none 0 0, Value.int .i64 0, Value.int .i64 0] 33 :: cel g2 (rcc r) 33 :: (rdH r.ss.a r.ss.l.length 3 (r.ss.l.flatMap smc)) :: (rdH r.ms.a r.ms.l.length 3 (r.ms.l.flatMap mtc)) :: recA r :: L) w15) => ?_)
  clear hS12
  refine WO.nil (NX.go (WP.region rfl ?_))
  refine WO.mv rfl rfl ?_
  refine WO.V (run_loadAgg (vs := [Value.slice a13 (0 + z.lb.l.length) c14, Value.int .i64 z.t, Value.int .u64 z.v]) Ty.ag83 Ty.sz83 rfl rfl (cell_all (hS15.cel_at 1 rfl) 0 rfl)) ?_
  refine WO.buildSlice (l := [Value.slice a13 (0 + z.lb.l.length) c14, Value.int .i64 z.t, Value.int .u64 z.v]) hS15 Tryz.underlying31 rfl (fun w => by kernel_rfl) rfl (fun g17 w16 lg17 hS16 => ?_)
  clear hS15
  refine WO.append (news := [Value.slice a13 (0 + z.lb.l.length) c14, Value.int .i64 z.t, Value.int .u64 z.v]) 5 rfl Tryz.underlying31 Tryz.underlying31 (fun _ h => by cases h) Ty.sz83 (by decide) Ty.by83 Ty.zr83 rfl rfl rfl rfl hS16 rfl ((hS16.cel_rd 0 rfl (o := 0) (m := 1) (k := 3) rfl (Nat.le_of_ble_eq_true rfl)).src) rfl (by omega) (by omega) (fun a19 c20 w18 hS18 => ?_)
  replace hS18 : St B (cel g17 [Value.slice a13 (0 + z.lb.l.length) c14, Value.int .i64 z.t, Value.int .u64 z.v] 83 :: own a13 (0 + z.lb.l.length) c14 105 2 ([] ++ (z.lb.l.flatMap prc)) :: cel g8 [Value.slice a13 (0 + z.lb.l.length) c14, Value.int .i64 z.t, Value.int .u64 z.v] 83 :: (labA z.lb) :: smsA r.ss.l :: own a19 (sl.length + 1) c20 83 3 ((sl.flatMap smc) ++ [Value.slice a13 (0 + z.lb.l.length) c14, Value.int .i64 z.t, Value.int .u64 z.v]) :: smsA sl :: cel g4 [Value.int .i64 0, Value.slice none 0 0, Value.slice none 0 0, Value.int .i64 0, Value.int .i64 0] 33 :: cel g2 (rcc r) 33 :: (rdH r.ss.a r.ss.l.length 3 (r.ss.l.flatMap smc)) :: (rdH r.ms.a r.ms.l.length 3 (r.ms.l.flatMap mtc)) :: recA r :: L) w18 := hS18
  clear hS16
  refine WO.asg rfl rfl ?_
  refine WO.nil (NX.blk (NX.go (WP.region rfl ?_)))
  refine WO.mv rfl rfl ?_
  refine WO.V (run_add rfl rfl (IntWalk.i64_in _ (by omega))) ?_
  refine WO.asg rfl rfl ?_
  refine WO.nil ?_
  have hS21 : St B (labA (⟨⟨a13, z.lb.l, c14⟩, z.t, z.v⟩ : Smp).lb :: cel g17 [Value.slice a13 (0 + z.lb.l.length) c14, Value.int .i64 z.t, Value.int .u64 z.v] 83 :: cel g8 [Value.slice a13 (0 + z.lb.l.length) c14, Value.int .i64 z.t, Value.int .u64 z.v] 83 :: (labA z.lb) :: smsA r.ss.l :: own a19 (sl.length + 1) c20 83 3 ((sl.flatMap smc) ++ [Value.slice a13 (0 + z.lb.l.length) c14, Value.int .i64 z.t, Value.int .u64 z.v]) :: smsA sl :: cel g4 [Value.int .i64 0, Value.slice none 0 0, Value.slice none 0 0, Value.int .i64 0, Value.int .i64 0] 33 :: cel g2 (rcc r) 33 :: (rdH r.ss.a r.ss.l.length 3 (r.ss.l.flatMap smc)) :: (rdH r.ms.a r.ms.l.length 3 (r.ms.l.flatMap mtc)) :: recA r :: L) w18 := rdH_own (own_eqM (hS18.permT [1] (L' := own a13 (0 + z.lb.l.length) c14 105 2 ([] ++ (z.lb.l.flatMap prc)) :: cel g17 [Value.slice a13 (0 + z.lb.l.length) c14, Value.int .i64 z.t, Value.int .u64 z.v] 83 :: cel g8 [Value.slice a13 (0 + z.lb.l.length) c14, Value.int .i64 z.t, Value.int .u64 z.v] 83 :: (labA z.lb) :: smsA r.ss.l :: own a19 (sl.length + 1) c20 83 3 ((sl.flatMap smc) ++ [Value.slice a13 (0 + z.lb.l.length) c14, Value.int .i64 z.t, Value.int .u64 z.v]) :: smsA sl :: cel g4 [Value.int .i64 0, Value.slice none 0 0, Value.slice none 0 0, Value.int .i64 0, Value.int .i64 0] 33 :: cel g2 (rcc r) 33 :: (rdH r.ss.a r.ss.l.length 3 (r.ss.l.flatMap smc)) :: (rdH r.ms.a r.ms.l.length 3 (r.ms.l.flatMap mtc)) :: recA r :: L) rfl) (by simp) (by simp))
  clear hS18
  have hS22 := smsA_snoc (s := (⟨⟨a13, z.lb.l, c14⟩, z.t, z.v⟩ : Smp)) (hS21.permT [6] (L' := smsA sl :: labA (⟨⟨a13, z.lb.l, c14⟩, z.t, z.v⟩ : Smp).lb :: cel g17 [Value.slice a13 (0 + z.lb.l.length) c14, Value.int .i64 z.t, Value.int .u64 z.v] 83 :: cel g8 [Value.slice a13 (0 + z.lb.l.length) c14, Value.int .i64 z.t, Value.int .u64 z.v] 83 :: (labA z.lb) :: smsA r.ss.l :: own a19 (sl.length + 1) c20 83 3 ((sl.flatMap smc) ++ [Value.slice a13 (0 + z.lb.l.length) c14, Value.int .i64 z.t, Value.int .u64 z.v]) :: cel g4 [Value.int .i64 0, Value.slice none 0 0, Value.slice none 0 0, Value.int .i64 0, Value.int .i64 0] 33 :: cel g2 (rcc r) 33 :: (rdH r.ss.a r.ss.l.length 3 (r.ss.l.flatMap smc)) :: (rdH r.ms.a r.ms.l.length 3 (r.ms.l.flatMap mtc)) :: recA r :: L) rfl)
  clear hS21
  exact NX.again (i + 1, sl ++ [(⟨⟨a13, z.lb.l, c14⟩, z.t, z.v⟩ : Smp)], a19, c20) ⟨⟨by omega, by rw [take_snocM hz1, List.map_append, List.map_append, hsl]; rfl, by rw [List.length_append, hsn]; rfl⟩, own_eqM ((hS22.mask [true, false, false, false] (L' := smsA (sl ++ [(⟨⟨a13, z.lb.l, c14⟩, z.t, z.v⟩ : Smp)]) :: smsA r.ss.l :: own a19 (sl.length + 1) c20 83 3 ((sl.flatMap smc) ++ [Value.slice a13 (0 + z.lb.l.length) c14, Value.int .i64 z.t, Value.int .u64 z.v]) :: cel g4 [Value.int .i64 0, Value.slice none 0 0, Value.slice none 0 0, Value.int .i64 0, Value.int .i64 0] 33 :: cel g2 (rcc r) 33 :: (rdH r.ss.a r.ss.l.length 3 (r.ss.l.flatMap smc)) :: (rdH r.ms.a r.ms.l.length 3 (r.ms.l.flatMap mtc)) :: recA r :: L) rfl).permT [2, 0, 1, 1, 1, 1] (L' := own a19 (sl.length + 1) c20 83 3 ((sl.flatMap smc) ++ [Value.slice a13 (0 + z.lb.l.length) c14, Value.int .i64 z.t, Value.int .u64 z.v]) :: smsA (sl ++ [(⟨⟨a13, z.lb.l, c14⟩, z.t, z.v⟩ : Smp)]) :: cel g4 [Value.int .i64 0, Value.slice none 0 0, Value.slice none 0 0, Value.int .i64 0, Value.int .i64 0] 33 :: cel g2 (rcc r) 33 :: (rdH r.ss.a r.ss.l.length 3 (r.ss.l.flatMap smc)) :: (rdH r.ms.a r.ms.l.length 3 (r.ms.l.flatMap mtc)) :: smsA r.ss.l :: recA r :: L) rfl) (by simp) (by simp [smc])⟩ (by show r.ss.l.length - (i + 1) < r.ss.l.length - i; omega) (Sub.cons rfl (Sub.cons rfl (Sub.consE rfl (by simp) (Sub.consE rfl (by congr 1) (Sub.nil _)))))
 ·
  refine WP.exit (NX.thenExit (NX.thenExit ?_))
  refine NX.blkExit ?_
  refine NX.go (WP.seq (WP.region rfl ?_))
  refine WO.mv rfl rfl ?_
  refine WO.V (run_fa 1 ⟨g2, 1, none⟩ rfl rfl) ?_
  refine WO.store (l' := [Value.int .i64 r.k, Value.slice oa sl.length oc, Value.slice r.ms.a r.ms.l.length r.ms.cap, Value.int .i64 r.fr, Value.int .i64 r.to]) 3 hS5 rfl Ty.sz31 rfl rfl rfl rfl rfl (Nat.le_of_ble_eq_true rfl) rfl (fun w23 (hS23 : St B (own oa sl.length oc 83 3 (sl.flatMap smc) :: smsA sl :: cel g4 [Value.int .i64 0, Value.slice none 0 0, Value.slice none 0 0, Value.int .i64 0, Value.int .i64 0] 33 :: cel g2 [Value.int .i64 r.k, Value.slice oa sl.length oc, Value.slice r.ms.a r.ms.l.length r.ms.cap, Value.int .i64 r.fr, Value.int .i64 r.to] 33 :: (rdH r.ss.a r.ss.l.length 3 (r.ss.l.flatMap smc)) :: (rdH r.ms.a r.ms.l.length 3 (r.ms.l.flatMap mtc)) :: smsA r.ss.l :: recA r :: L) w23) => ?_)
  clear hS5
  refine WO.nil (NX.go (WP.seq (WP.region rfl ?_)))
  refine WO.buildSlice (l := []) hS23 Tryz.underlying24 rfl (fun w => by kernel_rfl) rfl (fun g25 w24 lg25 hS24 => ?_)
  clear hS23
  have hS24 := hS24.own_of_cel (m := 0) (k := 3) rfl
  refine WO.V (run_fa 2 ⟨g2, 2, none⟩ rfl rfl) ?_
  refine WO.V (run_load Ty.ag24 rfl ((hS24.cel_at 4 rfl 2).trans rfl)) ?_
  refine WO.append (news := (r.ms.l.flatMap mtc)) 0 rfl Tryz.underlying24 Tryz.underlying24 (fun _ h => by cases h) Ty.sz151 (by decide) Ty.by151 Ty.zr151 rfl rfl rfl rfl hS24 rfl ((rdH_rd (hS24.focus 6 rfl)).src) (flat_noAgg mtc_na _) (by omega) (by omega) (fun a27 c28 w26 hS26 => ?_)
  replace hS26 : St B (own a27 (0 + r.ms.l.length) c28 151 3 ([] ++ (r.ms.l.flatMap mtc)) :: own oa sl.length oc 83 3 (sl.flatMap smc) :: smsA sl :: cel g4 [Value.int .i64 0, Value.slice none 0 0, Value.slice none 0 0, Value.int .i64 0, Value.int .i64 0] 33 :: cel g2 [Value.int .i64 r.k, Value.slice oa sl.length oc, Value.slice r.ms.a r.ms.l.length r.ms.cap, Value.int .i64 r.fr, Value.int .i64 r.to] 33 :: (rdH r.ss.a r.ss.l.length 3 (r.ss.l.flatMap smc)) :: (rdH r.ms.a r.ms.l.length 3 (r.ms.l.flatMap mtc)) :: smsA r.ss.l :: recA r :: L) w26 := hS26
  clear hS24
  refine WO.V (run_fa 2 ⟨g2, 2, none⟩ rfl rfl) ?_
  refine WO.store (l' := [Value.int .i64 r.k, Value.slice oa sl.length oc, Value.slice a27 (0 + r.ms.l.length) c28, Value.int .i64 r.fr, Value.int .i64 r.to]) 4 hS26 rfl Ty.sz24 rfl rfl rfl rfl rfl (Nat.le_of_ble_eq_true rfl) rfl (fun w29 (hS29 : St B (own a27 (0 + r.ms.l.length) c28 151 3 ([] ++ (r.ms.l.flatMap mtc)) :: own oa sl.length oc 83 3 (sl.flatMap smc) :: smsA sl :: cel g4 [Value.int .i64 0, Value.slice none 0 0, Value.slice none 0 0, Value.int .i64 0, Value.int .i64 0] 33 :: cel g2 [Value.int .i64 r.k, Value.slice oa sl.length oc, Value.slice a27 (0 + r.ms.l.length) c28, Value.int .i64 r.fr, Value.int .i64 r.to] 33 :: (rdH r.ss.a r.ss.l.length 3 (r.ss.l.flatMap smc)) :: (rdH r.ms.a r.ms.l.length 3 (r.ms.l.flatMap mtc)) :: smsA r.ss.l :: recA r :: L) w29) => ?_)
  clear hS26
  refine WO.nil (NX.go (WP.seq (WP.region rfl ?_)))
  refine WO.V (run_loadAgg (vs := [Value.int .i64 r.k, Value.slice oa sl.length oc, Value.slice a27 (0 + r.ms.l.length) c28, Value.int .i64 r.fr, Value.int .i64 r.to]) Ty.ag33 Ty.sz33 rfl rfl (cell_all (hS29.cel_at 4 rfl) 0 rfl)) ?_
  refine WO.store (l' := [Value.int .i64 r.k, Value.slice oa sl.length oc, Value.slice a27 (0 + r.ms.l.length) c28, Value.int .i64 r.fr, Value.int .i64 r.to]) 3 hS29 rfl Ty.sz33 rfl rfl rfl rfl rfl (Nat.le_of_ble_eq_true rfl) rfl (fun w30 (hS30 : St B (own a27 (0 + r.ms.l.length) c28 151 3 ([] ++ (r.ms.l.flatMap mtc)) :: own oa sl.length oc 83 3 (sl.flatMap smc) :: smsA sl :: cel g4 [Value.int .i64 r.k, Value.slice oa sl.length oc, Value.slice a27 (0 + r.ms.l.length) c28, Value.int .i64 r.fr, Value.int .i64 r.to] 33 :: cel g2 [Value.int .i64 r.k, Value.slice oa sl.length oc, Value.slice a27 (0 + r.ms.l.length) c28, Value.int .i64 r.fr, Value.int .i64 r.to] 33 :: (rdH r.ss.a r.ss.l.length 3 (r.ss.l.flatMap smc)) :: (rdH r.ms.a r.ms.l.length 3 (r.ms.l.flatMap mtc)) :: smsA r.ss.l :: recA r :: L) w30) => ?_)
  clear hS29
  refine WO.nil (NX.go (WP.ret ?_))
  refine NX.doneC (l := [.cell 2 33]) rfl (.cons (.cell rfl (loadVar_agg (vs := [Value.int .i64 r.k, Value.slice oa sl.length oc, Value.slice a27 (0 + r.ms.l.length) c28, Value.int .i64 r.fr, Value.int .i64 r.to]) Ty.ag33 Ty.sz33 rfl (cell_all (hS30.cel_at 3 rfl) 0 rfl))) .nil) ?_
  have hq1 : St B (rdH (⟨r.k, ⟨oa, sl, oc⟩, ⟨a27, r.ms.l, c28⟩, r.fr, r.to⟩ : Rcd).ss.a (⟨r.k, ⟨oa, sl, oc⟩, ⟨a27, r.ms.l, c28⟩, r.fr, r.to⟩ : Rcd).ss.l.length 3 ((⟨r.k, ⟨oa, sl, oc⟩, ⟨a27, r.ms.l, c28⟩, r.fr, r.to⟩ : Rcd).ss.l.flatMap smc) :: own a27 (0 + r.ms.l.length) c28 151 3 ([] ++ (r.ms.l.flatMap mtc)) :: smsA sl :: cel g4 [Value.int .i64 r.k, Value.slice oa sl.length oc, Value.slice a27 (0 + r.ms.l.length) c28, Value.int .i64 r.fr, Value.int .i64 r.to] 33 :: cel g2 [Value.int .i64 r.k, Value.slice oa sl.length oc, Value.slice a27 (0 + r.ms.l.length) c28, Value.int .i64 r.fr, Value.int .i64 r.to] 33 :: (rdH r.ss.a r.ss.l.length 3 (r.ss.l.flatMap smc)) :: (rdH r.ms.a r.ms.l.length 3 (r.ms.l.flatMap mtc)) :: smsA r.ss.l :: recA r :: L) w30 := rdH_own (hS30.permT [1] (L' := own oa sl.length oc 83 3 (sl.flatMap smc) :: own a27 (0 + r.ms.l.length) c28 151 3 ([] ++ (r.ms.l.flatMap mtc)) :: smsA sl :: cel g4 [Value.int .i64 r.k, Value.slice oa sl.length oc, Value.slice a27 (0 + r.ms.l.length) c28, Value.int .i64 r.fr, Value.int .i64 r.to] 33 :: cel g2 [Value.int .i64 r.k, Value.slice oa sl.length oc, Value.slice a27 (0 + r.ms.l.length) c28, Value.int .i64 r.fr, Value.int .i64 r.to] 33 :: (rdH r.ss.a r.ss.l.length 3 (r.ss.l.flatMap smc)) :: (rdH r.ms.a r.ms.l.length 3 (r.ms.l.flatMap mtc)) :: smsA r.ss.l :: recA r :: L) rfl)
  have hq2 : St B (rdH (⟨r.k, ⟨oa, sl, oc⟩, ⟨a27, r.ms.l, c28⟩, r.fr, r.to⟩ : Rcd).ms.a (⟨r.k, ⟨oa, sl, oc⟩, ⟨a27, r.ms.l, c28⟩, r.fr, r.to⟩ : Rcd).ms.l.length 3 ((⟨r.k, ⟨oa, sl, oc⟩, ⟨a27, r.ms.l, c28⟩, r.fr, r.to⟩ : Rcd).ms.l.flatMap mtc) :: rdH (⟨r.k, ⟨oa, sl, oc⟩, ⟨a27, r.ms.l, c28⟩, r.fr, r.to⟩ : Rcd).ss.a (⟨r.k, ⟨oa, sl, oc⟩, ⟨a27, r.ms.l, c28⟩, r.fr, r.to⟩ : Rcd).ss.l.length 3 ((⟨r.k, ⟨oa, sl, oc⟩, ⟨a27, r.ms.l, c28⟩, r.fr, r.to⟩ : Rcd).ss.l.flatMap smc) :: smsA sl :: cel g4 [Value.int .i64 r.k, Value.slice oa sl.length oc, Value.slice a27 (0 + r.ms.l.length) c28, Value.int .i64 r.fr, Value.int .i64 r.to] 33 :: cel g2 [Value.int .i64 r.k, Value.slice oa sl.length oc, Value.slice a27 (0 + r.ms.l.length) c28, Value.int .i64 r.fr, Value.int .i64 r.to] 33 :: (rdH r.ss.a r.ss.l.length 3 (r.ss.l.flatMap smc)) :: (rdH r.ms.a r.ms.l.length 3 (r.ms.l.flatMap mtc)) :: smsA r.ss.l :: recA r :: L) w30 := rdH_own (own_eqM (hq1.permT [1] (L' := own a27 (0 + r.ms.l.length) c28 151 3 ([] ++ (r.ms.l.flatMap mtc)) :: rdH (⟨r.k, ⟨oa, sl, oc⟩, ⟨a27, r.ms.l, c28⟩, r.fr, r.to⟩ : Rcd).ss.a (⟨r.k, ⟨oa, sl, oc⟩, ⟨a27, r.ms.l, c28⟩, r.fr, r.to⟩ : Rcd).ss.l.length 3 ((⟨r.k, ⟨oa, sl, oc⟩, ⟨a27, r.ms.l, c28⟩, r.fr, r.to⟩ : Rcd).ss.l.flatMap smc) :: smsA sl :: cel g4 [Value.int .i64 r.k, Value.slice oa sl.length oc, Value.slice a27 (0 + r.ms.l.length) c28, Value.int .i64 r.fr, Value.int .i64 r.to] 33 :: cel g2 [Value.int .i64 r.k, Value.slice oa sl.length oc, Value.slice a27 (0 + r.ms.l.length) c28, Value.int .i64 r.fr, Value.int .i64 r.to] 33 :: (rdH r.ss.a r.ss.l.length 3 (r.ss.l.flatMap smc)) :: (rdH r.ms.a r.ms.l.length 3 (r.ms.l.flatMap mtc)) :: smsA r.ss.l :: recA r :: L) rfl) (by simp) (by simp))
  have hq3 := (((hq2.mask [true, true, true, false, false, false, false, false] (L' := rdH (⟨r.k, ⟨oa, sl, oc⟩, ⟨a27, r.ms.l, c28⟩, r.fr, r.to⟩ : Rcd).ms.a (⟨r.k, ⟨oa, sl, oc⟩, ⟨a27, r.ms.l, c28⟩, r.fr, r.to⟩ : Rcd).ms.l.length 3 ((⟨r.k, ⟨oa, sl, oc⟩, ⟨a27, r.ms.l, c28⟩, r.fr, r.to⟩ : Rcd).ms.l.flatMap mtc) :: rdH (⟨r.k, ⟨oa, sl, oc⟩, ⟨a27, r.ms.l, c28⟩, r.fr, r.to⟩ : Rcd).ss.a (⟨r.k, ⟨oa, sl, oc⟩, ⟨a27, r.ms.l, c28⟩, r.fr, r.to⟩ : Rcd).ss.l.length 3 ((⟨r.k, ⟨oa, sl, oc⟩, ⟨a27, r.ms.l, c28⟩, r.fr, r.to⟩ : Rcd).ss.l.flatMap smc) :: smsA sl :: recA r :: L) rfl).permT [0, 1] (L' := rdH (⟨r.k, ⟨oa, sl, oc⟩, ⟨a27, r.ms.l, c28⟩, r.fr, r.to⟩ : Rcd).ms.a (⟨r.k, ⟨oa, sl, oc⟩, ⟨a27, r.ms.l, c28⟩, r.fr, r.to⟩ : Rcd).ms.l.length 3 ((⟨r.k, ⟨oa, sl, oc⟩, ⟨a27, r.ms.l, c28⟩, r.fr, r.to⟩ : Rcd).ms.l.flatMap mtc) :: smsA sl :: rdH (⟨r.k, ⟨oa, sl, oc⟩, ⟨a27, r.ms.l, c28⟩, r.fr, r.to⟩ : Rcd).ss.a (⟨r.k, ⟨oa, sl, oc⟩, ⟨a27, r.ms.l, c28⟩, r.fr, r.to⟩ : Rcd).ss.l.length 3 ((⟨r.k, ⟨oa, sl, oc⟩, ⟨a27, r.ms.l, c28⟩, r.fr, r.to⟩ : Rcd).ss.l.flatMap smc) :: recA r :: L) rfl)).join
  have hq4 := (hq3.permT [1, 0, 0] (L' := rdH (⟨r.k, ⟨oa, sl, oc⟩, ⟨a27, r.ms.l, c28⟩, r.fr, r.to⟩ : Rcd).ss.a (⟨r.k, ⟨oa, sl, oc⟩, ⟨a27, r.ms.l, c28⟩, r.fr, r.to⟩ : Rcd).ss.l.length 3 ((⟨r.k, ⟨oa, sl, oc⟩, ⟨a27, r.ms.l, c28⟩, r.fr, r.to⟩ : Rcd).ss.l.flatMap smc) :: .sep (rdH (⟨r.k, ⟨oa, sl, oc⟩, ⟨a27, r.ms.l, c28⟩, r.fr, r.to⟩ : Rcd).ms.a (⟨r.k, ⟨oa, sl, oc⟩, ⟨a27, r.ms.l, c28⟩, r.fr, r.to⟩ : Rcd).ms.l.length 3 ((⟨r.k, ⟨oa, sl, oc⟩, ⟨a27, r.ms.l, c28⟩, r.fr, r.to⟩ : Rcd).ms.l.flatMap mtc)) (smsA sl) :: recA r :: L) rfl).join
  have htk : r.ss.l.take i = r.ss.l := List.take_of_length_le (by omega)
  exact ⟨(⟨r.k, ⟨oa, sl, oc⟩, ⟨a27, r.ms.l, c28⟩, r.fr, r.to⟩ : Rcd), by simp [rcc, one]; try omega, by show RcP.mk _ _ _ _ _ = RcP.mk _ _ _ _ _; rw [show (⟨r.k, ⟨oa, sl, oc⟩, ⟨a27, r.ms.l, c28⟩, r.fr, r.to⟩ : Rcd).ss.l.map Smp.p = r.ss.l.map Smp.p by rw [← htk]; exact hsl], hq4⟩
end Go.Proofs.YtidoidoelgfnaaaGreatDoor.SL

/- Blocks that are too much. -/
namespace Go.Proofs.YtidoidoelgfnaaaGreatDoor.SL
open Go.RowKit Go.Proofs.YtidoidoelgfnaaaGreatDoor
open Go.Proofs.YtidoidoelgfnaaaGreatDoorW.PrintLast (rtab opsOf)
set_option linter.unusedVariables false
set_option linter.unusedSimpArgs false

def wsum : List MRow → Nat
  | [] => 0
  | r :: l => 10 * r.lb.l.length + r.pt.l.length + wsum l
theorem wsum_snoc {l : List MRow} {r : MRow} : wsum (l ++ [r]) = wsum l + (10 * r.lb.l.length + r.pt.l.length) := by
  induction l with
  | nil => simp [wsum]
  | cons a l ih => rw [List.cons_append, wsum, wsum, ih]; omega
def wgt (b : BlkV) : Nat := wsum b.rs.l + b.ds.l.length
theorem upto_next {α : Type} {P : α → Prop} {l : List α} {i : Nat} {x : α} (h : ∀ j b, j < i → l[j]? = some b → P b) (hx : l[i]? = some x) (hp : P x) : ∀ j b, j < i + 1 → l[j]? = some b → P b := fun j b hj hb => by
  rcases Nat.lt_or_ge j i with c | c
  · exact h j b c hb
  · have e : j = i := by omega
    subst e; rw [hx] at hb; cases hb; exact hp
theorem t46_5 : rtab .any (opsOf Tryz.f46 5) = (true, [([], []), ([], []), ([1], [1]), ([], []), ([2, 3], [2, 3]), ([4], [4]), ([5], [5]), ([6], [6]), ([7], [7]), ([0, 8], [0, 8]), ([], []), ([10], [10]), ([], []), ([11, 12], [11, 12]), ([13], [13]), ([14], [14]), ([15], [15]), ([9, 16], [9, 16]), ([17, 0, 1, 2, 3, 4, 5, 6, 7, 8, 9, 10, 11, 12, 13, 14, 15, 16, 17], [0, 17])]) := by kernel_rfl
theorem t46_9 : rtab .any (opsOf Tryz.f46 9) = (true, [([], []), ([], []), ([1], [1]), ([], []), ([2, 3], [2, 3]), ([4], [4]), ([5], [5]), ([], []), ([6, 7], [6, 7]), ([8], [8]), ([9], [9]), ([10], [10]), ([11], [11]), ([0, 12], [0, 12]), ([], []), ([14], [14]), ([], []), ([15, 16], [15, 16]), ([17], [17]), ([18], [18]), ([], []), ([19, 20], [19, 20]), ([21], [21]), ([22], [22]), ([23], [23]), ([24], [24]), ([13, 25], [13, 25]), ([26, 0, 1, 2, 3, 4, 5, 6, 7, 8, 9, 10, 11, 12, 13, 14, 15, 16, 17, 18, 19, 20, 21, 22, 23, 24, 25, 26], [0, 26])]) := by kernel_rfl
theorem g15_spec {B w : World} {L : List HP} (b1 : BlkV) (hz : MzB b1) (hS : St B (blA b1 :: L) w) : Does Tryz.prog 46 [Value.agg #[Value.int .i64 b1.first, Value.int .i64 b1.to, Value.slice b1.rs.a b1.rs.l.length b1.rs.cap, Value.slice b1.ds.a b1.ds.l.length b1.ds.cap]] w (fun v w1 => (∃ q, v = .bool q ∧ (q = false → wgt b1 ≤ 1999)) ∧ St B (blA b1 :: L) w1) := by
 replace hS := blA_open hS
 have hnr := hz.nr
 have hnd := hz.nd
 refine enter (n := 100) Tryz.func46 rfl rfl [Value.agg #[Value.int .i64 b1.first, Value.int .i64 b1.to, Value.slice b1.rs.a b1.rs.l.length b1.rs.cap, Value.slice b1.ds.a b1.ds.l.length b1.ds.cap]] rfl ?_
 refine WP.seq (WP.region rfl ?_)
 refine WO.box (l := (blc b1)) hS rfl rfl rfl (fun g2 w1 lg2 hS1 => ?_)
 clear hS
 refine WO.asg rfl rfl ?_
 refine WO.nil (NX.go (WP.seq (WP.region rfl ?_)))
 refine WO.V (run_fa 3 ⟨g2, 3, none⟩ rfl rfl) ?_
 refine WO.V (run_load Ty.ag23 rfl ((hS1.cel_at 0 rfl 3).trans rfl)) ?_
 refine WO.V (run_len rfl Tryz.underlying23 rfl) ?_
 refine WO.asg rfl rfl ?_
 refine WO.nil (NX.go (WP.seq (WP.seq (WP.region rfl ?_))))
 refine WO.asg rfl rfl ?_
 refine WO.nil (NX.go (WP.block ?_))
 refine WP.loop (α := Nat × Int) (fun x => match x with | ⟨i, n⟩ => [(0, Value.agg #[Value.int .i64 b1.first, Value.int .i64 b1.to, Value.slice b1.rs.a b1.rs.l.length b1.rs.cap, Value.slice b1.ds.a b1.ds.l.length b1.ds.cap]), (1, Value.pointer (some ⟨g2, 0, none⟩)), (3, Value.int .i64 n), (4, Value.int .i64 (i : Int))]) (fun x w => match x with | ⟨i, n⟩ => (i ≤ b1.rs.l.length ∧ ((wsum (b1.rs.l.take i) + b1.ds.l.length : Nat) : Int) ≤ n ∧ n ≤ 1000000000000000) ∧ St B (cel g2 (blc b1) 51 :: (rsA b1.rs) :: allA mrA b1.rs.l :: (dsA b1.ds) :: allA recA b1.ds.l :: blA b1 :: L) w) (fun x => match x with | ⟨i, n⟩ => b1.rs.l.length - i) (0, ((b1.ds.l.length : Nat) : Int)) ⟨⟨Nat.zero_le _, by simp [wsum], by omega⟩, hS1⟩ (Sub.cons rfl (Sub.cons rfl (Sub.consE rfl (by first | rfl | first | rfl | (congr 1; omega) | (simp; done) | (simp; omega)) (Sub.consE rfl (by first | rfl | first | rfl | (congr 1; omega) | (simp; done) | (simp; omega)) (Sub.nil _))))) ?_
 rintro ⟨i, n⟩ w3 ⟨⟨hi, hw, hn⟩, hS3⟩
 clear hS1
 refine WP.seq (WP.seq (WP.region rfl ?_))
 refine WO.mv rfl rfl ?_
 refine WO.V (run_fa 2 ⟨g2, 2, none⟩ rfl rfl) ?_
 refine WO.V (run_load Ty.ag49 rfl ((hS3.cel_at 0 rfl 2).trans rfl)) ?_
 refine WO.V (run_len rfl Tryz.underlying49 rfl) ?_
 refine WO.V (run_lss rfl rfl) ?_
 refine WO.mv rfl rfl ?_
 refine dcase (p := (i : Int) < ((b1.rs.l.length : Nat) : Int)) (fun g15 d15 => ?_) (fun g15 d15 => ?_)
 ·
  refine WO.on rfl rfl d15 ?_
  refine WO.mv rfl rfl ?_
  refine WO.on rfl rfl d15 ?_
  refine WO.V (run_lss rfl rfl) ?_
  refine WO.V (run_pickT rfl d15 rfl) ?_
  refine WO.nil (NX.go ?_)
  refine WP.condP rfl (fun g18 => ?_) (fun g18 => ?_)
  ·
   refine WP.skip (NX.go (WP.seq (WP.block (WP.seq ?_))))
   obtain ⟨u, hu⟩ : ∃ qq, b1.rs.l[i]? = some qq := ⟨_, List.getElem?_eq_getElem (by omega)⟩
   have hsa : b1.rs.a.isSome = true := rd_isSome ((rdH_rd (hS3.focus 1 rfl))) (by omega)
   have hS4 := mrA_get (List.mem_of_getElem? hu) (hS3.permT [2] (L' := allA mrA b1.rs.l :: cel g2 (blc b1) 51 :: (rsA b1.rs) :: (dsA b1.ds) :: allA recA b1.ds.l :: blA b1 :: L) rfl)
   clear hS3
   have hzu := hz.r u (List.mem_of_getElem? hu)
   refine WD.start (fun w => Rd w u.lb.a u.lb.l.length 2 (u.lb.l.flatMap prc) ∧ Rd w u.pt.a u.pt.l.length 2 (u.pt.l.flatMap ptc) ∧ (∀ jz, World.cell? w ⟨g2, jz, none⟩ = (blc b1)[jz]?) ∧ Rd w b1.rs.a b1.rs.l.length 3 (b1.rs.l.flatMap mrc) ∧ Rd w b1.ds.a b1.ds.l.length 5 (b1.ds.l.flatMap rcc)) [] (bt 19 0) Ty.mo rfl (by kernel_rfl) hS4 (fun _ h => ⟨(rdH_rd (h.focus 0 rfl)), (rdH_rd (h.focus 1 rfl)), h.cel_at 3 rfl, (rdH_rd (h.focus 4 rfl)), (rdH_rd (h.focus 5 rfl))⟩) (fun w5 hS5 s6 => ?_)
   clear hS4
   refine DP (i := 0) t46_5 (bt 19 1) rfl rfl rfl rfl (fun w => run_move rfl) ?_
   refine DP (i := 1) t46_5 (bt 19 3) rfl rfl rfl rfl (fun w => run_fa 2 ⟨g2, 2, none⟩ rfl rfl) ?_
   refine DT (i := 2) t46_5 (bt 19 7) s6 rfl rfl rfl rfl (fun w hs => run_load Ty.ag49 rfl ((hs.2.2.1 2).trans rfl)) ?_
   refine DP (i := 3) t46_5 (bt 19 15) rfl rfl rfl rfl (fun w => run_move rfl) ?_
   refine DT (i := 4) t46_5 (bt 19 31) s6 rfl rfl rfl rfl (fun w hs => run_indexAddr (q := adr b1.rs.a (i * 3)) Tryz.underlying49 Ty.sz99 rfl rfl (by omega) (by omega) ((hs.2.2.2.1).2.1 (by omega)) rfl) ?_
   refine DP (i := 5) t46_5 (bt 19 63) rfl rfl rfl rfl (fun w => run_fa 0 (adr b1.rs.a (i * 3 + 0)) rfl (adr_add _ (by assumption) _ _)) ?_
   refine DT (i := 6) t46_5 (bt 19 127) s6 rfl rfl rfl rfl (fun w hs => run_load Ty.ag65 rfl ((hs.2.2.2.1).cell ((flat_get mrc_len hu (j := 0) (by decide)).trans rfl))) ?_
   refine DP (i := 7) t46_5 (bt 19 255) rfl rfl rfl rfl (fun w => run_len rfl Tryz.underlying65 rfl) ?_
   refine DP (i := 8) t46_5 (bt 19 511) rfl rfl rfl rfl (fun w => run_mul rfl rfl (IntWalk.i64_in _ (by omega))) ?_
   refine DP (i := 9) t46_5 (bt 19 1023) rfl rfl rfl rfl (fun w => run_add rfl rfl (IntWalk.i64_in _ (by omega))) ?_
   refine DP (i := 10) t46_5 (bt 19 2047) rfl rfl rfl rfl (fun w => run_fa 2 ⟨g2, 2, none⟩ rfl rfl) ?_
   refine DT (i := 11) t46_5 (bt 19 4095) s6 rfl rfl rfl rfl (fun w hs => run_load Ty.ag49 rfl ((hs.2.2.1 2).trans rfl)) ?_
   refine DP (i := 12) t46_5 (bt 19 8191) rfl rfl rfl rfl (fun w => run_move rfl) ?_
   refine DT (i := 13) t46_5 (bt 19 16383) s6 rfl rfl rfl rfl (fun w hs => run_indexAddr (q := adr b1.rs.a (i * 3)) Tryz.underlying49 Ty.sz99 rfl rfl (by omega) (by omega) ((hs.2.2.2.1).2.1 (by omega)) rfl) ?_
   refine DP (i := 14) t46_5 (bt 19 32767) rfl rfl rfl rfl (fun w => run_fa 2 (adr b1.rs.a (i * 3 + 2)) rfl (adr_add _ (by assumption) _ _)) ?_
   refine DT (i := 15) t46_5 (bt 19 65535) s6 rfl rfl rfl rfl (fun w hs => run_load Ty.ag66 rfl ((hs.2.2.2.1).cell ((flat_get mrc_len hu (j := 2) (by decide)).trans rfl))) ?_
   refine DP (i := 16) t46_5 (bt 19 131071) rfl rfl rfl rfl (fun w => run_len rfl Tryz.underlying66 rfl) ?_
   refine DP (i := 17) t46_5 (bt 19 262143) rfl rfl rfl rfl (fun w => run_add rfl rfl (IntWalk.i64_in _ (by omega))) ?_
   refine DP (i := 18) t46_5 (bt 19 524287) rfl rfl rfl rfl (fun w => run_assign rfl) ?_
   refine WD.done t46_5 (by kernel_rfl) ?_
   refine NX.go (WP.seq (WP.region rfl ?_))
   refine WO.asg rfl rfl ?_
   refine WO.nil (NX.go (WP.block ?_))
   refine WP.loop (α := Nat × Int) (fun x => match x with | ⟨k, n2⟩ => [(0, Value.agg #[Value.int .i64 b1.first, Value.int .i64 b1.to, Value.slice b1.rs.a b1.rs.l.length b1.rs.cap, Value.slice b1.ds.a b1.ds.l.length b1.ds.cap]), (1, Value.pointer (some ⟨g2, 0, none⟩)), (3, Value.int .i64 n2), (4, Value.int .i64 (i : Int)), (5, Value.int .i64 (k : Int))]) (fun x w => match x with | ⟨k, n2⟩ => (k ≤ u.lb.l.length ∧ ((wsum (b1.rs.l.take (i + 1)) + b1.ds.l.length : Nat) : Int) ≤ n2 ∧ n2 ≤ 1000000000000000) ∧ St B (cel g2 (blc b1) 51 :: (rsA b1.rs) :: (labA u.lb) :: allA mrA b1.rs.l :: (dsA b1.ds) :: allA recA b1.ds.l :: blA b1 :: L) w) (fun x => match x with | ⟨k, n2⟩ => u.lb.l.length - k) (0, (n + (10 * ((u.lb.l.length : Nat) : Int))) + ((u.pt.l.length : Nat) : Int)) ⟨⟨Nat.zero_le _, by rw [take_snocM hu, wsum_snoc]; omega, by omega⟩, ((hS5.mask [true, false] (L' := (labA u.lb) :: allA mrA b1.rs.l :: cel g2 (blc b1) 51 :: (rsA b1.rs) :: (dsA b1.ds) :: allA recA b1.ds.l :: blA b1 :: L) rfl).permT [2, 2] (L' := cel g2 (blc b1) 51 :: (rsA b1.rs) :: (labA u.lb) :: allA mrA b1.rs.l :: (dsA b1.ds) :: allA recA b1.ds.l :: blA b1 :: L) rfl)⟩ (Sub.cons rfl (Sub.cons rfl (Sub.consE rfl (by first | rfl | first | rfl | (congr 1; omega) | (simp; done) | (simp; omega)) (Sub.cons rfl (Sub.consE rfl (by first | rfl | first | rfl | (congr 1; omega) | (simp; done) | (simp; omega)) (Sub.nil _)))))) ?_
   rintro ⟨k, n2⟩ w7 ⟨⟨hk, hw2, hn2⟩, hS7⟩
   clear hS5
   refine WP.seq (WP.seq (WP.region rfl ?_))
   refine WO.mv rfl rfl ?_
   refine WO.V (run_fa 2 ⟨g2, 2, none⟩ rfl rfl) ?_
   refine WO.V (run_load Ty.ag49 rfl ((hS7.cel_at 0 rfl 2).trans rfl)) ?_
   refine WO.mv rfl rfl ?_
   refine WO.V (run_indexAddr (q := adr b1.rs.a (i * 3)) Tryz.underlying49 Ty.sz99 rfl rfl (by omega) (by omega) ((rdH_rd (hS7.focus 1 rfl)).2.1 (by omega)) rfl) ?_
   refine WO.V (run_fa 0 (adr b1.rs.a (i * 3 + 0)) rfl (adr_add _ (by assumption) _ _)) ?_
   refine WO.V (run_load Ty.ag65 rfl ((rdH_rd (hS7.focus 1 rfl)).cell ((flat_get mrc_len hu (j := 0) (by decide)).trans rfl))) ?_
   refine WO.V (run_len rfl Tryz.underlying65 rfl) ?_
   refine WO.V (run_lss rfl rfl) ?_
   refine WO.mv rfl rfl ?_
   refine dcase (p := (k : Int) < ((u.lb.l.length : Nat) : Int)) (fun g48 d48 => ?_) (fun g48 d48 => ?_)
   ·
    refine WO.on rfl rfl d48 ?_
    refine WO.mv rfl rfl ?_
    refine WO.on rfl rfl d48 ?_
    refine WO.V (run_lss rfl rfl) ?_
    refine WO.V (run_pickT rfl d48 rfl) ?_
    refine WO.nil (NX.go ?_)
    refine WP.condP rfl (fun g51 => ?_) (fun g51 => ?_)
    ·
     refine WP.skip (NX.go (WP.seq (WP.block ?_)))
     obtain ⟨p, hp⟩ : ∃ qq, u.lb.l[k]? = some qq := ⟨_, List.getElem?_eq_getElem (by omega)⟩
     have hsp : u.lb.a.isSome = true := rd_isSome ((rdH_rd (hS7.focus 2 rfl))) (by omega)
     have hpz := hzu.2.2 p (List.mem_of_getElem? hp)
     refine WD.start (fun w => (∀ jz, World.cell? w ⟨g2, jz, none⟩ = (blc b1)[jz]?) ∧ Rd w b1.rs.a b1.rs.l.length 3 (b1.rs.l.flatMap mrc) ∧ Rd w u.lb.a u.lb.l.length 2 (u.lb.l.flatMap prc) ∧ Rd w b1.ds.a b1.ds.l.length 5 (b1.ds.l.flatMap rcc)) [] (bt 28 0) Ty.mo rfl (by kernel_rfl) hS7 (fun _ h => ⟨h.cel_at 0 rfl, (rdH_rd (h.focus 1 rfl)), (rdH_rd (h.focus 2 rfl)), (rdH_rd (h.focus 4 rfl))⟩) (fun w8 hS8 s9 => ?_)
     clear hS7
     refine DP (i := 0) t46_9 (bt 28 1) rfl rfl rfl rfl (fun w => run_move rfl) ?_
     refine DP (i := 1) t46_9 (bt 28 3) rfl rfl rfl rfl (fun w => run_fa 2 ⟨g2, 2, none⟩ rfl rfl) ?_
     refine DT (i := 2) t46_9 (bt 28 7) s9 rfl rfl rfl rfl (fun w hs => run_load Ty.ag49 rfl ((hs.1 2).trans rfl)) ?_
     refine DP (i := 3) t46_9 (bt 28 15) rfl rfl rfl rfl (fun w => run_move rfl) ?_
     refine DT (i := 4) t46_9 (bt 28 31) s9 rfl rfl rfl rfl (fun w hs => run_indexAddr (q := adr b1.rs.a (i * 3)) Tryz.underlying49 Ty.sz99 rfl rfl (by omega) (by omega) ((hs.2.1).2.1 (by omega)) rfl) ?_
     refine DP (i := 5) t46_9 (bt 28 63) rfl rfl rfl rfl (fun w => run_fa 0 (adr b1.rs.a (i * 3 + 0)) rfl (adr_add _ (by assumption) _ _)) ?_
     refine DT (i := 6) t46_9 (bt 28 127) s9 rfl rfl rfl rfl (fun w hs => run_load Ty.ag65 rfl ((hs.2.1).cell ((flat_get mrc_len hu (j := 0) (by decide)).trans rfl))) ?_
     refine DP (i := 7) t46_9 (bt 28 255) rfl rfl rfl rfl (fun w => run_move rfl) ?_
     refine DT (i := 8) t46_9 (bt 28 511) s9 rfl rfl rfl rfl (fun w hs => run_indexAddr (q := adr u.lb.a (k * 2)) Tryz.underlying65 Ty.sz105 rfl rfl (by omega) (by omega) ((hs.2.2.1).2.1 (by omega)) rfl) ?_
     refine DP (i := 9) t46_9 (bt 28 1023) rfl rfl rfl rfl (fun w => run_fa 0 (adr u.lb.a (k * 2 + 0)) rfl (adr_add _ (by assumption) _ _)) ?_
     refine DT (i := 10) t46_9 (bt 28 2047) s9 rfl rfl rfl rfl (fun w hs => run_load Ty.ag9 rfl ((hs.2.2.1).cell ((flat_get prc_len hp (j := 0) (by decide)).trans rfl))) ?_
     refine DP (i := 11) t46_9 (bt 28 4095) rfl rfl rfl rfl (fun w => run_lenS rfl Tryz.underlying9 rfl) ?_
     refine DP (i := 12) t46_9 (bt 28 8191) rfl rfl rfl rfl (fun w => run_quo rfl rfl (by omega) (quo_i64 (by omega))) ?_
     refine DP (i := 13) t46_9 (bt 28 16383) rfl rfl rfl rfl (fun w => run_add rfl rfl (IntWalk.i64_in _ (by omega))) ?_
     refine DP (i := 14) t46_9 (bt 28 32767) rfl rfl rfl rfl (fun w => run_fa 2 ⟨g2, 2, none⟩ rfl rfl) ?_
     refine DT (i := 15) t46_9 (bt 28 65535) s9 rfl rfl rfl rfl (fun w hs => run_load Ty.ag49 rfl ((hs.1 2).trans rfl)) ?_
     refine DP (i := 16) t46_9 (bt 28 131071) rfl rfl rfl rfl (fun w => run_move rfl) ?_
     refine DT (i := 17) t46_9 (bt 28 262143) s9 rfl rfl rfl rfl (fun w hs => run_indexAddr (q := adr b1.rs.a (i * 3)) Tryz.underlying49 Ty.sz99 rfl rfl (by omega) (by omega) ((hs.2.1).2.1 (by omega)) rfl) ?_
     refine DP (i := 18) t46_9 (bt 28 524287) rfl rfl rfl rfl (fun w => run_fa 0 (adr b1.rs.a (i * 3 + 0)) rfl (adr_add _ (by assumption) _ _)) ?_
     refine DT (i := 19) t46_9 (bt 28 1048575) s9 rfl rfl rfl rfl (fun w hs => run_load Ty.ag65 rfl ((hs.2.1).cell ((flat_get mrc_len hu (j := 0) (by decide)).trans rfl))) ?_
     refine DP (i := 20) t46_9 (bt 28 2097151) rfl rfl rfl rfl (fun w => run_move rfl) ?_
     refine DT (i := 21) t46_9 (bt 28 4194303) s9 rfl rfl rfl rfl (fun w hs => run_indexAddr (q := adr u.lb.a (k * 2)) Tryz.underlying65 Ty.sz105 rfl rfl (by omega) (by omega) ((hs.2.2.1).2.1 (by omega)) rfl) ?_
     refine DP (i := 22) t46_9 (bt 28 8388607) rfl rfl rfl rfl (fun w => run_fa 1 (adr u.lb.a (k * 2 + 1)) rfl (adr_add _ (by assumption) _ _)) ?_
     refine DT (i := 23) t46_9 (bt 28 16777215) s9 rfl rfl rfl rfl (fun w hs => run_load Ty.ag9 rfl ((hs.2.2.1).cell ((flat_get prc_len hp (j := 1) (by decide)).trans rfl))) ?_
     refine DP (i := 24) t46_9 (bt 28 33554431) rfl rfl rfl rfl (fun w => run_lenS rfl Tryz.underlying9 rfl) ?_
     refine DP (i := 25) t46_9 (bt 28 67108863) rfl rfl rfl rfl (fun w => run_quo rfl rfl (by omega) (quo_i64 (by omega))) ?_
     refine DP (i := 26) t46_9 (bt 28 134217727) rfl rfl rfl rfl (fun w => run_add rfl rfl (IntWalk.i64_in _ (by omega))) ?_
     refine DP (i := 27) t46_9 (bt 28 268435455) rfl rfl rfl rfl (fun w => run_assign rfl) ?_
     refine WD.done t46_9 (by kernel_rfl) ?_
     refine NX.blk (NX.go (WP.region rfl ?_))
     refine WO.mv rfl rfl ?_
     refine WO.V (run_add rfl rfl (IntWalk.i64_in _ (by omega))) ?_
     refine WO.asg rfl rfl ?_
     refine WO.nil ?_
     exact NX.again (k + 1, (n2 + ((p.n.length : Int) / 100)) + ((p.v.length : Int) / 100)) ⟨⟨by omega, by omega, by omega⟩, hS8⟩ (by show u.lb.l.length - (k + 1) < u.lb.l.length - k; omega) (Sub.cons rfl (Sub.cons rfl (Sub.consE rfl (by first | rfl | (congr 1; omega) | (simp; done) | (simp; omega)) (Sub.cons rfl (Sub.consE rfl (by congr 1) (Sub.nil _))))))
    ·
     refine WP.exit (NX.thenExit (NX.thenExit ?_))
     refine NX.blkExit ?_
     refine NX.blk (NX.go (WP.region rfl ?_))
     refine WO.mv rfl rfl ?_
     refine WO.V (run_add rfl rfl (IntWalk.i64_in _ (by omega))) ?_
     refine WO.asg rfl rfl ?_
     refine WO.nil ?_
     exact NX.again (i + 1, n2) ⟨⟨by omega, hw2, hn2⟩, (hS7.mask [true, true, false] (L' := cel g2 (blc b1) 51 :: (rsA b1.rs) :: allA mrA b1.rs.l :: (dsA b1.ds) :: allA recA b1.ds.l :: blA b1 :: L) rfl)⟩ (by show b1.rs.l.length - (i + 1) < b1.rs.l.length - i; omega) (Sub.cons rfl (Sub.cons rfl (Sub.consE rfl rfl (Sub.consE rfl (by congr 1) (Sub.nil _)))))
   ·
    refine WO.off rfl rfl d48 rfl ?_
    refine WO.off rfl rfl d48 rfl ?_
    refine WO.V (run_pickF rfl d48 rfl) ?_
    refine WO.nil (NX.go ?_)
    refine WP.condF rfl rfl ?_
    refine WP.exit (NX.thenExit (NX.thenExit ?_))
    refine NX.blkExit ?_
    refine NX.blk (NX.go (WP.region rfl ?_))
    refine WO.mv rfl rfl ?_
    refine WO.V (run_add rfl rfl (IntWalk.i64_in _ (by omega))) ?_
    refine WO.asg rfl rfl ?_
    refine WO.nil ?_
    exact NX.again (i + 1, n2) ⟨⟨by omega, hw2, hn2⟩, (hS7.mask [true, true, false] (L' := cel g2 (blc b1) 51 :: (rsA b1.rs) :: allA mrA b1.rs.l :: (dsA b1.ds) :: allA recA b1.ds.l :: blA b1 :: L) rfl)⟩ (by show b1.rs.l.length - (i + 1) < b1.rs.l.length - i; omega) (Sub.cons rfl (Sub.cons rfl (Sub.consE rfl rfl (Sub.consE rfl (by congr 1) (Sub.nil _)))))
  ·
   refine WP.exit (NX.thenExit (NX.thenExit ?_))
   refine NX.blkExit ?_
   refine NX.go (WP.seq (WP.seq ?_))
   have hx : ((wgt b1 : Nat) : Int) ≤ n ∨ 2000 ≤ n := .inr (by omega)
   refine WP.region rfl ?_
   refine WO.asg rfl rfl ?_
   refine WO.nil (NX.go (WP.block ?_))
   refine WP.loop (α := Nat) (fun x => match x with | j => [(0, Value.agg #[Value.int .i64 b1.first, Value.int .i64 b1.to, Value.slice b1.rs.a b1.rs.l.length b1.rs.cap, Value.slice b1.ds.a b1.ds.l.length b1.ds.cap]), (1, Value.pointer (some ⟨g2, 0, none⟩)), (3, Value.int .i64 n), (6, Value.int .i64 (j : Int))]) (fun x w => match x with | j => (j ≤ b1.ds.l.length) ∧ St B (cel g2 (blc b1) 51 :: (rsA b1.rs) :: allA mrA b1.rs.l :: (dsA b1.ds) :: allA recA b1.ds.l :: blA b1 :: L) w) (fun x => match x with | j => b1.ds.l.length - j) 0 ⟨Nat.zero_le _, hS3⟩ (Sub.cons rfl (Sub.cons rfl (Sub.cons rfl (Sub.consE rfl (by first | rfl | first | rfl | (congr 1; omega) | (simp; done) | (simp; omega)) (Sub.nil _))))) ?_
   rintro j w10 ⟨hj, hS10⟩
   clear hS3
   refine WP.seq (WP.seq (WP.region rfl ?_))
   refine WO.mv rfl rfl ?_
   refine WO.V (run_fa 3 ⟨g2, 3, none⟩ rfl rfl) ?_
   refine WO.V (run_load Ty.ag23 rfl ((hS10.cel_at 0 rfl 3).trans rfl)) ?_
   refine WO.V (run_len rfl Tryz.underlying23 rfl) ?_
   refine WO.V (run_lss rfl rfl) ?_
   refine WO.mv rfl rfl ?_
   refine dcase (p := (j : Int) < ((b1.ds.l.length : Nat) : Int)) (fun g86 d86 => ?_) (fun g86 d86 => ?_)
   ·
    refine WO.on rfl rfl d86 ?_
    refine WO.mv rfl rfl ?_
    refine WO.on rfl rfl d86 ?_
    refine WO.V (run_lss rfl rfl) ?_
    refine WO.V (run_pickT rfl d86 rfl) ?_
    refine WO.nil (NX.go ?_)
    refine WP.condP rfl (fun g89 => ?_) (fun g89 => ?_)
    ·
     refine WP.skip (NX.go (WP.seq (WP.block (WP.seq ?_))))
     obtain ⟨d1, hd1⟩ : ∃ qq, b1.ds.l[j]? = some qq := ⟨_, List.getElem?_eq_getElem (by omega)⟩
     refine WP.region rfl ?_
     refine WO.V (run_fa 3 ⟨g2, 3, none⟩ rfl rfl) ?_
     refine WO.V (run_load Ty.ag23 rfl ((hS10.cel_at 0 rfl 3).trans rfl)) ?_
     refine WO.mv rfl rfl ?_
     refine WO.V (run_indexAddr (q := adr b1.ds.a (j * 5)) Tryz.underlying23 Ty.sz33 rfl rfl (by omega) (by omega) ((rdH_rd (hS10.focus 3 rfl)).2.1 (by omega)) rfl) ?_
     refine WO.V (run_loadAgg (vs := (rcc d1)) Ty.ag33 Ty.sz33 rfl ((rdH_rd (hS10.focus 3 rfl)).cells (by rw [flat_len rcc_len]; omega) (flat_part rcc_len hd1)).1 ((rdH_rd (hS10.focus 3 rfl)).cells (by rw [flat_len rcc_len]; omega) (flat_part rcc_len hd1)).2) ?_
     have hS11 := allA_get recA_pers (List.mem_of_getElem? hd1) (hS10.permT [4] (L' := allA recA b1.ds.l :: cel g2 (blc b1) 51 :: (rsA b1.rs) :: allA mrA b1.rs.l :: (dsA b1.ds) :: blA b1 :: L) rfl)
     clear hS10
     refine WO.call rfl rfl Ty.hd14 rfl (g12_spec d1 (hz.d d1 (List.mem_of_getElem? hd1)) hS11) (fun v13 w12 pv13 => ?_)
     obtain ⟨⟨q, rfl⟩, hS12⟩ := pv13
     clear hS11
     refine WO.nil (NX.go ?_)
     refine WP.condB rfl (fun g97 => ?_) (fun g97 => ?_)
     ·
      refine WP.seq (WP.region rfl ?_)
      refine WO.asg rfl rfl ?_
      refine WO.nil (NX.go (WP.ret (NX.blkRet (NX.thenRet (NX.thenRet (NX.blkRet (NX.thenRet ?_)))))))
      refine NX.done (l := [.tmp 2]) rfl rfl ?_
      exact ⟨⟨_, rfl, fun h => by cases h⟩, hS12.drop.drop.drop.drop.drop.drop⟩
     ·
      refine WP.skip (NX.blk (NX.go (WP.region rfl ?_)))
      refine WO.mv rfl rfl ?_
      refine WO.V (run_add rfl rfl (IntWalk.i64_in _ (by omega))) ?_
      refine WO.asg rfl rfl ?_
      refine WO.nil ?_
      exact NX.again (j + 1) ⟨by omega, (hS12.permT [0, 1, 1, 1, 1] (L' := recA d1 :: cel g2 (blc b1) 51 :: (rsA b1.rs) :: allA mrA b1.rs.l :: (dsA b1.ds) :: allA recA b1.ds.l :: blA b1 :: L) rfl).drop⟩ (by show b1.ds.l.length - (j + 1) < b1.ds.l.length - j; omega) (Sub.cons rfl (Sub.cons rfl (Sub.cons rfl (Sub.consE rfl (by congr 1) (Sub.nil _)))))
    ·
     refine WP.exit (NX.thenExit (NX.thenExit ?_))
     refine NX.blkExit ?_
     refine NX.go (WP.seq (WP.region rfl ?_))
     refine WO.mv rfl rfl ?_
     refine WO.V (run_geq rfl rfl) ?_
     refine WO.asg rfl rfl ?_
     refine WO.nil (NX.go (WP.ret ?_))
     refine NX.done (l := [.tmp 2]) rfl rfl ?_
     exact ⟨⟨_, rfl, fun h => by have h2 := of_decide_eq_false h; omega⟩, hS10.drop.drop.drop.drop.drop⟩
   ·
    refine WO.off rfl rfl d86 rfl ?_
    refine WO.off rfl rfl d86 rfl ?_
    refine WO.V (run_pickF rfl d86 rfl) ?_
    refine WO.nil (NX.go ?_)
    refine WP.condF rfl rfl ?_
    refine WP.exit (NX.thenExit (NX.thenExit ?_))
    refine NX.blkExit ?_
    refine NX.go (WP.seq (WP.region rfl ?_))
    refine WO.mv rfl rfl ?_
    refine WO.V (run_geq rfl rfl) ?_
    refine WO.asg rfl rfl ?_
    refine WO.nil (NX.go (WP.ret ?_))
    refine NX.done (l := [.tmp 2]) rfl rfl ?_
    exact ⟨⟨_, rfl, fun h => by have h2 := of_decide_eq_false h; omega⟩, hS10.drop.drop.drop.drop.drop⟩
 ·
  refine WO.off rfl rfl d15 rfl ?_
  refine WO.off rfl rfl d15 rfl ?_
  refine WO.V (run_pickF rfl d15 rfl) ?_
  refine WO.nil (NX.go ?_)
  refine WP.condF rfl rfl ?_
  refine WP.exit (NX.thenExit (NX.thenExit ?_))
  refine NX.blkExit ?_
  refine NX.go (WP.seq (WP.seq ?_))
  have hx : ((wgt b1 : Nat) : Int) ≤ n ∨ 2000 ≤ n := .inl (by rw [List.take_of_length_le (by omega)] at hw; exact hw)
  refine WP.region rfl ?_
  refine WO.asg rfl rfl ?_
  refine WO.nil (NX.go (WP.block ?_))
  refine WP.loop (α := Nat) (fun x => match x with | j => [(0, Value.agg #[Value.int .i64 b1.first, Value.int .i64 b1.to, Value.slice b1.rs.a b1.rs.l.length b1.rs.cap, Value.slice b1.ds.a b1.ds.l.length b1.ds.cap]), (1, Value.pointer (some ⟨g2, 0, none⟩)), (3, Value.int .i64 n), (6, Value.int .i64 (j : Int))]) (fun x w => match x with | j => (j ≤ b1.ds.l.length) ∧ St B (cel g2 (blc b1) 51 :: (rsA b1.rs) :: allA mrA b1.rs.l :: (dsA b1.ds) :: allA recA b1.ds.l :: blA b1 :: L) w) (fun x => match x with | j => b1.ds.l.length - j) 0 ⟨Nat.zero_le _, hS3⟩ (Sub.cons rfl (Sub.cons rfl (Sub.cons rfl (Sub.consE rfl (by first | rfl | first | rfl | (congr 1; omega) | (simp; done) | (simp; omega)) (Sub.nil _))))) ?_
  rintro j w14 ⟨hj, hS14⟩
  clear hS3
  refine WP.seq (WP.seq (WP.region rfl ?_))
  refine WO.mv rfl rfl ?_
  refine WO.V (run_fa 3 ⟨g2, 3, none⟩ rfl rfl) ?_
  refine WO.V (run_load Ty.ag23 rfl ((hS14.cel_at 0 rfl 3).trans rfl)) ?_
  refine WO.V (run_len rfl Tryz.underlying23 rfl) ?_
  refine WO.V (run_lss rfl rfl) ?_
  refine WO.mv rfl rfl ?_
  refine dcase (p := (j : Int) < ((b1.ds.l.length : Nat) : Int)) (fun g86 d86 => ?_) (fun g86 d86 => ?_)
  ·
   refine WO.on rfl rfl d86 ?_
   refine WO.mv rfl rfl ?_
   refine WO.on rfl rfl d86 ?_
   refine WO.V (run_lss rfl rfl) ?_
   refine WO.V (run_pickT rfl d86 rfl) ?_
   refine WO.nil (NX.go ?_)
   refine WP.condP rfl (fun g89 => ?_) (fun g89 => ?_)
   ·
    refine WP.skip (NX.go (WP.seq (WP.block (WP.seq ?_))))
    obtain ⟨d1, hd1⟩ : ∃ qq, b1.ds.l[j]? = some qq := ⟨_, List.getElem?_eq_getElem (by omega)⟩
    refine WP.region rfl ?_
    refine WO.V (run_fa 3 ⟨g2, 3, none⟩ rfl rfl) ?_
    refine WO.V (run_load Ty.ag23 rfl ((hS14.cel_at 0 rfl 3).trans rfl)) ?_
    refine WO.mv rfl rfl ?_
    refine WO.V (run_indexAddr (q := adr b1.ds.a (j * 5)) Tryz.underlying23 Ty.sz33 rfl rfl (by omega) (by omega) ((rdH_rd (hS14.focus 3 rfl)).2.1 (by omega)) rfl) ?_
    refine WO.V (run_loadAgg (vs := (rcc d1)) Ty.ag33 Ty.sz33 rfl ((rdH_rd (hS14.focus 3 rfl)).cells (by rw [flat_len rcc_len]; omega) (flat_part rcc_len hd1)).1 ((rdH_rd (hS14.focus 3 rfl)).cells (by rw [flat_len rcc_len]; omega) (flat_part rcc_len hd1)).2) ?_
    have hS15 := allA_get recA_pers (List.mem_of_getElem? hd1) (hS14.permT [4] (L' := allA recA b1.ds.l :: cel g2 (blc b1) 51 :: (rsA b1.rs) :: allA mrA b1.rs.l :: (dsA b1.ds) :: blA b1 :: L) rfl)
    clear hS14
    refine WO.call rfl rfl Ty.hd14 rfl (g12_spec d1 (hz.d d1 (List.mem_of_getElem? hd1)) hS15) (fun v17 w16 pv17 => ?_)
    obtain ⟨⟨q, rfl⟩, hS16⟩ := pv17
    clear hS15
    refine WO.nil (NX.go ?_)
    refine WP.condB rfl (fun g97 => ?_) (fun g97 => ?_)
    ·
     refine WP.seq (WP.region rfl ?_)
     refine WO.asg rfl rfl ?_
     refine WO.nil (NX.go (WP.ret (NX.blkRet (NX.thenRet (NX.thenRet (NX.blkRet (NX.thenRet ?_)))))))
     refine NX.done (l := [.tmp 2]) rfl rfl ?_
     exact ⟨⟨_, rfl, fun h => by cases h⟩, hS16.drop.drop.drop.drop.drop.drop⟩
    ·
     refine WP.skip (NX.blk (NX.go (WP.region rfl ?_)))
     refine WO.mv rfl rfl ?_
     refine WO.V (run_add rfl rfl (IntWalk.i64_in _ (by omega))) ?_
     refine WO.asg rfl rfl ?_
     refine WO.nil ?_
     exact NX.again (j + 1) ⟨by omega, (hS16.permT [0, 1, 1, 1, 1] (L' := recA d1 :: cel g2 (blc b1) 51 :: (rsA b1.rs) :: allA mrA b1.rs.l :: (dsA b1.ds) :: allA recA b1.ds.l :: blA b1 :: L) rfl).drop⟩ (by show b1.ds.l.length - (j + 1) < b1.ds.l.length - j; omega) (Sub.cons rfl (Sub.cons rfl (Sub.cons rfl (Sub.consE rfl (by congr 1) (Sub.nil _)))))
   ·
    refine WP.exit (NX.thenExit (NX.thenExit ?_))
    refine NX.blkExit ?_
    refine NX.go (WP.seq (WP.region rfl ?_))
    refine WO.mv rfl rfl ?_
    refine WO.V (run_geq rfl rfl) ?_
    refine WO.asg rfl rfl ?_
    refine WO.nil (NX.go (WP.ret ?_))
    refine NX.done (l := [.tmp 2]) rfl rfl ?_
    exact ⟨⟨_, rfl, fun h => by have h2 := of_decide_eq_false h; omega⟩, hS14.drop.drop.drop.drop.drop⟩
  ·
   refine WO.off rfl rfl d86 rfl ?_
   refine WO.off rfl rfl d86 rfl ?_
   refine WO.V (run_pickF rfl d86 rfl) ?_
   refine WO.nil (NX.go ?_)
   refine WP.condF rfl rfl ?_
   refine WP.exit (NX.thenExit (NX.thenExit ?_))
   refine NX.blkExit ?_
   refine NX.go (WP.seq (WP.region rfl ?_))
   refine WO.mv rfl rfl ?_
   refine WO.V (run_geq rfl rfl) ?_
   refine WO.asg rfl rfl ?_
   refine WO.nil (NX.go (WP.ret ?_))
   refine NX.done (l := [.tmp 2]) rfl rfl ?_
   exact ⟨⟨_, rfl, fun h => by have h2 := of_decide_eq_false h; omega⟩, hS14.drop.drop.drop.drop.drop⟩
theorem g16_spec {B w : World} {L : List HP} {X : HP} {a : Option Addr} {cap : Nat} {bs : List BlkV} (hX : ∀ {L : List HP} {w : World}, St B (X :: L) w → Rd w a bs.length 4 (bs.flatMap blc)) (hbz : ∀ b ∈ bs, MzB b) (hbn : bs.length ≤ 2199023255552) (hS : St B (X :: allA blA bs :: L) w) : Does Tryz.prog 12 [Value.slice a bs.length cap] w (fun v w1 => (∃ q, v = .bool q ∧ (q = false → bs.length ≤ 8 ∧ ∀ b ∈ bs, wgt b ≤ 1999)) ∧ St B (X :: allA blA bs :: L) w1) := by
 refine enter (n := 18) Tryz.func12 rfl rfl [Value.slice a bs.length cap] rfl ?_
 refine WP.seq (WP.region rfl ?_)
 refine WO.asg rfl rfl ?_
 refine WO.nil (NX.go (WP.seq (WP.seq (WP.region rfl ?_))))
 refine WO.asg rfl rfl ?_
 refine WO.nil (NX.go (WP.block ?_))
 refine WP.loop (α := Nat) (fun x => match x with | i => [(0, Value.slice a bs.length cap), (3, Value.int .i64 (i : Int))]) (fun x w => match x with | i => (i ≤ bs.length ∧ ∀ j b, j < i → bs[j]? = some b → wgt b ≤ 1999) ∧ St B (X :: allA blA bs :: L) w) (fun x => match x with | i => bs.length - i) 0 ⟨⟨Nat.zero_le _, fun j b h => absurd h (by omega)⟩, hS⟩ (Sub.cons rfl (Sub.consE rfl (by first | rfl | first | rfl | (congr 1; omega) | (simp; done) | (simp; omega)) (Sub.nil _))) ?_
 rintro i w1 ⟨⟨hi, hall⟩, hS1⟩
 clear hS
 refine WP.seq (WP.seq (WP.region rfl ?_))
 refine WO.mv rfl rfl ?_
 refine WO.mv rfl rfl ?_
 refine WO.V (run_len rfl Tryz.underlying22 rfl) ?_
 refine WO.V (run_lss rfl rfl) ?_
 refine WO.nil (NX.go ?_)
 refine WP.condP rfl (fun g7 => ?_) (fun g7 => ?_)
 ·
  refine WP.skip (NX.go (WP.seq (WP.block (WP.seq ?_))))
  obtain ⟨b1, hb1⟩ : ∃ qq, bs[i]? = some qq := ⟨_, List.getElem?_eq_getElem (by omega)⟩
  refine WP.region rfl ?_
  refine WO.mv rfl rfl ?_
  refine WO.mv rfl rfl ?_
  refine WO.V (run_indexAddr (q := adr a (i * 4)) Tryz.underlying22 Ty.sz51 rfl rfl (by omega) (by omega) ((hX (hS1.focus 0 rfl)).2.1 (by omega)) rfl) ?_
  refine WO.V (run_loadAgg (vs := (blc b1)) Ty.ag51 Ty.sz51 rfl ((hX (hS1.focus 0 rfl)).cells (by rw [flat_len blc_len]; omega) (flat_part blc_len hb1)).1 ((hX (hS1.focus 0 rfl)).cells (by rw [flat_len blc_len]; omega) (flat_part blc_len hb1)).2) ?_
  have hS2 := allA_get blA_pers (List.mem_of_getElem? hb1) (hS1.permT [1] (L' := allA blA bs :: X :: L) rfl)
  clear hS1
  refine WO.call rfl rfl Ty.hd46 rfl (g15_spec b1 (hbz b1 (List.mem_of_getElem? hb1)) hS2) (fun v4 w3 pv4 => ?_)
  obtain ⟨⟨q, rfl, hq⟩, hS3⟩ := pv4
  clear hS2
  refine WO.nil (NX.go ?_)
  refine WP.condB rfl (fun g14 => ?_) (fun g14 => ?_)
  ·
   refine WP.seq (WP.region rfl ?_)
   refine WO.asg rfl rfl ?_
   refine WO.nil (NX.go (WP.ret (NX.blkRet (NX.thenRet (NX.thenRet (NX.blkRet (NX.thenRet ?_)))))))
   refine NX.done (l := [.tmp 2]) rfl rfl ?_
   exact ⟨⟨_, rfl, fun h => by cases h⟩, (hS3.permT [0, 1] (L' := blA b1 :: X :: allA blA bs :: L) rfl).drop⟩
  ·
   refine WP.skip (NX.blk (NX.go (WP.region rfl ?_)))
   refine WO.mv rfl rfl ?_
   refine WO.V (run_add rfl rfl (IntWalk.i64_in _ (by omega))) ?_
   refine WO.asg rfl rfl ?_
   refine WO.nil ?_
   exact NX.again (i + 1) ⟨⟨by omega, upto_next hall hb1 (hq g14)⟩, (hS3.permT [0, 1] (L' := blA b1 :: X :: allA blA bs :: L) rfl).drop⟩ (by show bs.length - (i + 1) < bs.length - i; omega) (Sub.cons rfl (Sub.consE rfl (by congr 1) (Sub.nil _)))
 ·
  refine WP.exit (NX.thenExit (NX.thenExit ?_))
  refine NX.blkExit ?_
  refine NX.go (WP.seq (WP.region rfl ?_))
  refine WO.mv rfl rfl ?_
  refine WO.V (run_len rfl Tryz.underlying22 rfl) ?_
  refine WO.V (run_gtr rfl rfl) ?_
  refine WO.asg rfl rfl ?_
  refine WO.nil (NX.go (WP.ret ?_))
  refine NX.done (l := [.tmp 2]) rfl rfl ?_
  exact ⟨⟨_, rfl, fun h => by have h2 := of_decide_eq_false h; refine ⟨by omega, fun b hb => ?_⟩; obtain ⟨j, hj⟩ := List.mem_iff_getElem?.1 hb; exact hall j b (by have := (List.getElem?_eq_some_iff.1 hj).1; omega) hj⟩, hS1⟩
end Go.Proofs.YtidoidoelgfnaaaGreatDoor.SL

/- The program's block of the document's. -/
namespace Go.Proofs.YtidoidoelgfnaaaGreatDoor.SL
open Go.RowKit Go.Proofs.YtidoidoelgfnaaaGreatDoor
open Go.Proofs.YtidoidoelgfnaaaGreatDoorW.PrintLast (rtab opsOf)
set_option linter.unusedVariables false
set_option linter.unusedSimpArgs false
theorem t54_6 : rtab .any (opsOf Tryz.f54 6) = (true, [([], []), ([0], [0]), ([], []), ([], []), ([3], [3]), ([2, 4], [2, 4]), ([], []), ([6], [6]), ([], []), ([], []), ([9], [9]), ([8, 10, 5], [8, 10]), ([5, 7, 11], [5, 7, 11]), ([12], [12]), ([1, 13, 11], [1, 13]), ([0, 1, 2, 3, 4, 5, 6, 7, 8, 9, 10, 11, 12, 13, 14], []), ([15, 14, 14, 0, 1, 2, 3, 4, 5, 6, 7, 8, 9, 10, 11, 12, 13, 14], [14, 15])]) := by kernel_rfl
theorem t54_10 : rtab .any (opsOf Tryz.f54 10) = (true, [([], []), ([0], [0]), ([], []), ([2], [2]), ([], []), ([3, 4], [3, 4]), ([5], [5]), ([6], [6]), ([7], [7]), ([1, 8, 7], [1, 8]), ([0, 1, 2, 3, 4, 5, 6, 7, 8, 9], []), ([10, 9, 9, 0, 1, 2, 3, 4, 5, 6, 7, 8, 9], [9, 10])]) := by kernel_rfl
set_option maxHeartbeats 1000000 in
theorem to15_spec {B w : World} {L : List HP} (b1 : BlkV) (hz : MzB b1) (hS : St B (blA b1 :: L) w) : Does Tryz.prog 54 [Value.agg #[Value.int .i64 b1.first, Value.int .i64 b1.to, Value.slice b1.rs.a b1.rs.l.length b1.rs.cap, Value.slice b1.ds.a b1.ds.l.length b1.ds.cap]] w (fun v w1 => ∃ c1 : BlkV, v = .agg (blc c1).toArray ∧ c1.p = b1.p ∧ St B (blA c1 :: blA b1 :: L) w1) := by
 replace hS := blA_open hS
 have hnr := hz.nr
 have hnd := hz.nd
 refine enter (n := 59) Tryz.func54 rfl rfl [Value.agg #[Value.int .i64 b1.first, Value.int .i64 b1.to, Value.slice b1.rs.a b1.rs.l.length b1.rs.cap, Value.slice b1.ds.a b1.ds.l.length b1.ds.cap]] rfl ?_
 refine WP.seq (WP.region rfl ?_)
 refine WO.box (l := (blc b1)) hS rfl rfl rfl (fun g2 w1 lg2 hS1 => ?_)
 clear hS
 refine WO.alloc (l := [Value.int .i64 0, Value.int .i64 0, Value.slice none 0 0, Value.slice none 0 0]) hS1 Ty.zr46 rfl rfl (fun g4 w3 lg4 hS3 => ?_)
 clear hS1
 refine WO.nil (NX.go (WP.seq (WP.region rfl ?_)))
 refine WO.V (run_fa 0 ⟨g2, 0, none⟩ rfl rfl) ?_
 refine WO.V (run_load Ty.ag3 rfl ((hS3.cel_at 1 rfl 0).trans rfl)) ?_
 refine WO.V (run_fa 1 ⟨g2, 1, none⟩ rfl rfl) ?_
 refine WO.V (run_load Ty.ag3 rfl ((hS3.cel_at 1 rfl 1).trans rfl)) ?_
 refine WO.V (run_build (v := Value.agg #[Value.int .i64 b1.first, Value.int .i64 b1.to, Value.slice none 0 0, Value.slice none 0 0]) rfl (fun w => by kernel_rfl)) ?_
 refine WO.alloc (l := [Value.int .i64 0, Value.int .i64 0, Value.slice none 0 0, Value.slice none 0 0]) hS3 Ty.zr46 rfl rfl (fun g6 w5 lg6 hS5 => ?_)
 clear hS3
 refine WO.store (l' := [Value.int .i64 b1.first, Value.int .i64 b1.to, Value.slice none 0 0, Value.slice none 0 0]) 0 hS5 rfl Ty.sz46 rfl rfl rfl rfl rfl (Nat.le_of_ble_eq_true rfl) rfl (fun w7 (hS7 : St B (cel g6 [Value.int .i64 b1.first, Value.int .i64 b1.to, Value.slice none 0 0, Value.slice none 0 0] 46 :: cel g4 [Value.int .i64 0, Value.int .i64 0, Value.slice none 0 0, Value.slice none 0 0] 46 :: cel g2 (blc b1) 51 :: (rsA b1.rs) :: allA mrA b1.rs.l :: (dsA b1.ds) :: allA recA b1.ds.l :: blA b1 :: L) w7) => ?_)
 clear hS5
 refine WO.nil (NX.go (WP.seq (WP.seq (WP.region rfl ?_))))
 refine WO.asg rfl rfl ?_
 refine WO.nil (NX.go (WP.block ?_))
 have hS8 : St B (cel g6 [Value.int .i64 b1.first, Value.int .i64 b1.to, Value.slice none 0 0, Value.slice none 0 0] 46 :: cel g2 (blc b1) 51 :: (rsA b1.rs) :: allA mrA b1.rs.l :: cel g4 [Value.int .i64 0, Value.int .i64 0, Value.slice none 0 0, Value.slice none 0 0] 46 :: (dsA b1.ds) :: allA recA b1.ds.l :: blA b1 :: L) w7 := (hS7.permT [0, 1, 1, 1] (L' := cel g6 [Value.int .i64 b1.first, Value.int .i64 b1.to, Value.slice none 0 0, Value.slice none 0 0] 46 :: cel g2 (blc b1) 51 :: (rsA b1.rs) :: allA mrA b1.rs.l :: cel g4 [Value.int .i64 0, Value.int .i64 0, Value.slice none 0 0, Value.slice none 0 0] 46 :: (dsA b1.ds) :: allA recA b1.ds.l :: blA b1 :: L) rfl)
 clear hS7
 replace hS8 := (St.addPure trivial hS8 : St B (allA mrA [] :: cel g6 [Value.int .i64 b1.first, Value.int .i64 b1.to, Value.slice none 0 0, Value.slice none 0 0] 46 :: cel g2 (blc b1) 51 :: (rsA b1.rs) :: allA mrA b1.rs.l :: cel g4 [Value.int .i64 0, Value.int .i64 0, Value.slice none 0 0, Value.slice none 0 0] 46 :: (dsA b1.ds) :: allA recA b1.ds.l :: blA b1 :: L) w7)
 replace hS8 := hS8.own_nil 93 3
 refine WP.loop (α := Nat × List MRow × Option Addr × Nat) (fun x => match x with | ⟨i, Rs, oa, oc⟩ => [(1, Value.pointer (some ⟨g2, 0, none⟩)), (2, Value.pointer (some ⟨g4, 0, none⟩)), (3, Value.pointer (some ⟨g6, 0, none⟩)), (4, Value.int .i64 (i : Int))]) (fun x w => match x with | ⟨i, Rs, oa, oc⟩ => (i ≤ b1.rs.l.length ∧ Rs.map MRow.p = (b1.rs.l.take i).map MRow.p ∧ Rs.length = i) ∧ St B (own oa Rs.length oc 93 3 (Rs.flatMap mrc) :: allA mrA Rs :: cel g6 [Value.int .i64 b1.first, Value.int .i64 b1.to, Value.slice oa Rs.length oc, Value.slice none 0 0] 46 :: cel g2 (blc b1) 51 :: (rsA b1.rs) :: allA mrA b1.rs.l :: cel g4 [Value.int .i64 0, Value.int .i64 0, Value.slice none 0 0, Value.slice none 0 0] 46 :: (dsA b1.ds) :: allA recA b1.ds.l :: blA b1 :: L) w) (fun x => match x with | ⟨i, Rs, oa, oc⟩ => b1.rs.l.length - i) (0, [], none, 0) ⟨⟨Nat.zero_le _, rfl, rfl⟩, hS8⟩ (Sub.cons rfl (Sub.cons rfl (Sub.cons rfl (Sub.consE rfl (by first | rfl | first | rfl | (congr 1; omega) | (simp; done) | (simp; omega)) (Sub.nil _))))) ?_
 rintro ⟨i, Rs, oa, oc⟩ w9 ⟨⟨hi, hRs, hRn⟩, hS9⟩
 clear hS8
 refine WP.seq (WP.seq (WP.region rfl ?_))
 refine WO.mv rfl rfl ?_
 refine WO.V (run_fa 2 ⟨g2, 2, none⟩ rfl rfl) ?_
 refine WO.V (run_load Ty.ag49 rfl ((hS9.cel_at 3 rfl 2).trans rfl)) ?_
 refine WO.V (run_len rfl Tryz.underlying49 rfl) ?_
 refine WO.V (run_lss rfl rfl) ?_
 refine WO.nil (NX.go ?_)
 refine WP.condP rfl (fun g16 => ?_) (fun g16 => ?_)
 ·
  refine WP.skip (NX.go (WP.seq (WP.block (WP.seq ?_))))
  obtain ⟨u, hu⟩ : ∃ qq, b1.rs.l[i]? = some qq := ⟨_, List.getElem?_eq_getElem (by omega)⟩
  have hS10 := mrA_get (List.mem_of_getElem? hu) (hS9.permT [5] (L' := allA mrA b1.rs.l :: own oa Rs.length oc 93 3 (Rs.flatMap mrc) :: allA mrA Rs :: cel g6 [Value.int .i64 b1.first, Value.int .i64 b1.to, Value.slice oa Rs.length oc, Value.slice none 0 0] 46 :: cel g2 (blc b1) 51 :: (rsA b1.rs) :: cel g4 [Value.int .i64 0, Value.int .i64 0, Value.slice none 0 0, Value.slice none 0 0] 46 :: (dsA b1.ds) :: allA recA b1.ds.l :: blA b1 :: L) rfl)
  clear hS9
  have hzu := hz.r u (List.mem_of_getElem? hu)
  refine WP.region rfl ?_
  refine WO.V (run_fa 2 ⟨g2, 2, none⟩ rfl rfl) ?_
  refine WO.V (run_load Ty.ag49 rfl ((hS10.cel_at 6 rfl 2).trans rfl)) ?_
  refine WO.mv rfl rfl ?_
  refine WO.V (run_indexAddr (q := adr b1.rs.a (i * 3)) Tryz.underlying49 Ty.sz99 rfl rfl (by omega) (by omega) ((rdH_rd (hS10.focus 7 rfl)).2.1 (by omega)) rfl) ?_
  refine WO.V (run_loadAgg (vs := (mrc u)) Ty.ag99 Ty.sz99 rfl ((rdH_rd (hS10.focus 7 rfl)).cells (by rw [flat_len mrc_len]; omega) (flat_part mrc_len hu)).1 ((rdH_rd (hS10.focus 7 rfl)).cells (by rw [flat_len mrc_len]; omega) (flat_part mrc_len hu)).2) ?_
  refine WO.alloc (l := [Value.slice none 0 0, Value.int .i64 0, Value.slice none 0 0]) hS10 Ty.zr99 rfl rfl (fun g12 w11 lg12 hS11 => ?_)
  clear hS10
  refine WO.store (l' := (mrc u)) 0 hS11 rfl Ty.sz99 rfl rfl rfl rfl rfl (Nat.le_of_ble_eq_true rfl) rfl (fun w13 (hS13 : St B (cel g12 (mrc u) 99 :: (labA u.lb) :: (ptsA u.pt) :: allA mrA b1.rs.l :: own oa Rs.length oc 93 3 (Rs.flatMap mrc) :: allA mrA Rs :: cel g6 [Value.int .i64 b1.first, Value.int .i64 b1.to, Value.slice oa Rs.length oc, Value.slice none 0 0] 46 :: cel g2 (blc b1) 51 :: (rsA b1.rs) :: cel g4 [Value.int .i64 0, Value.int .i64 0, Value.slice none 0 0, Value.slice none 0 0] 46 :: (dsA b1.ds) :: allA recA b1.ds.l :: blA b1 :: L) w13) => ?_)
  clear hS11
  refine WO.nil (NX.go ?_)
  have hS14 : St B (cel g12 (mrc u) 99 :: (labA u.lb) :: (ptsA u.pt) :: own oa Rs.length oc 93 3 (Rs.flatMap mrc) :: allA mrA Rs :: cel g6 [Value.int .i64 b1.first, Value.int .i64 b1.to, Value.slice oa Rs.length oc, Value.slice none 0 0] 46 :: allA mrA b1.rs.l :: cel g2 (blc b1) 51 :: (rsA b1.rs) :: cel g4 [Value.int .i64 0, Value.int .i64 0, Value.slice none 0 0, Value.slice none 0 0] 46 :: (dsA b1.ds) :: allA recA b1.ds.l :: blA b1 :: L) w13 := (hS13.permT [0, 0, 0, 1, 1, 1] (L' := cel g12 (mrc u) 99 :: (labA u.lb) :: (ptsA u.pt) :: own oa Rs.length oc 93 3 (Rs.flatMap mrc) :: allA mrA Rs :: cel g6 [Value.int .i64 b1.first, Value.int .i64 b1.to, Value.slice oa Rs.length oc, Value.slice none 0 0] 46 :: allA mrA b1.rs.l :: cel g2 (blc b1) 51 :: (rsA b1.rs) :: cel g4 [Value.int .i64 0, Value.int .i64 0, Value.slice none 0 0, Value.slice none 0 0] 46 :: (dsA b1.ds) :: allA recA b1.ds.l :: blA b1 :: L) rfl)
  clear hS13
  refine WD.start (fun w => (∀ jz, World.cell? w ⟨g12, jz, none⟩ = (mrc u)[jz]?) ∧ (∀ jz, World.cell? w ⟨g6, jz, none⟩ = [Value.int .i64 b1.first, Value.int .i64 b1.to, Value.slice oa Rs.length oc, Value.slice none 0 0][jz]?)) [16] (bt 17 0) Ty.mo rfl (by kernel_rfl) hS14 (fun _ h => ⟨h.cel_at 0 rfl, h.cel_at 5 rfl⟩) (fun w15 hS15 s16 => ?_)
  clear hS14
  refine DP (i := 0) t54_6 (bt 17 1) rfl rfl rfl rfl (fun w => run_fa 2 ⟨g6, 2, none⟩ rfl rfl) ?_
  refine DT (i := 1) t54_6 (bt 17 3) s16 rfl rfl rfl rfl (fun w hs => run_load Ty.ag44 rfl ((hs.2 2).trans rfl)) ?_
  refine DP (i := 3) t54_6 (bt 17 11) rfl rfl rfl rfl (fun w => run_fa 0 ⟨g12, 0, none⟩ rfl rfl) ?_
  refine DT (i := 4) t54_6 (bt 17 27) s16 rfl rfl rfl rfl (fun w hs => run_load Ty.ag65 rfl ((hs.1 0).trans rfl)) ?_
  refine DP (i := 6) t54_6 (bt 17 91) rfl rfl rfl rfl (fun w => run_fa 1 ⟨g12, 1, none⟩ rfl rfl) ?_
  refine DT (i := 7) t54_6 (bt 17 219) s16 rfl rfl rfl rfl (fun w hs => run_load Ty.ag2 rfl ((hs.1 1).trans rfl)) ?_
  refine DP (i := 9) t54_6 (bt 17 731) rfl rfl rfl rfl (fun w => run_fa 2 ⟨g12, 2, none⟩ rfl rfl) ?_
  refine DT (i := 10) t54_6 (bt 17 1755) s16 rfl rfl rfl rfl (fun w hs => run_load Ty.ag66 rfl ((hs.1 2).trans rfl)) ?_
  refine WD.two (i := 2) (k := 8) t54_6 (bt 17 1759) (bt 17 2011) rfl rfl (by kernel_rfl) ?_ ?_
  ·
   refine WO.buildSlice (l := []) hS15 Tryz.underlying65 rfl (fun w => by kernel_rfl) rfl (fun g18 w17 lg18 hS17 => ?_)
   clear hS15
   have hS17 := hS17.own_of_cel (m := 0) (k := 2) rfl
   refine WO.nil ?_
   have s19 : (∀ jz, World.cell? w17 ⟨g12, jz, none⟩ = (mrc u)[jz]?) ∧ (∀ jz, World.cell? w17 ⟨g6, jz, none⟩ = [Value.int .i64 b1.first, Value.int .i64 b1.to, Value.slice oa Rs.length oc, Value.slice none 0 0][jz]?) := ⟨hS17.cel_at 1 rfl, hS17.cel_at 6 rfl⟩
   refine NX.held s19 ?_
   refine WD.two (i := 5) (k := 8) t54_6 (bt 17 1791) (bt 17 2015) rfl rfl (by kernel_rfl) ?_ ?_
   ·
    refine WO.append (news := (u.lb.l.flatMap prc)) 0 rfl Tryz.underlying65 Tryz.underlying65 (fun _ h => by cases h) Ty.sz105 (by decide) Ty.by105 Ty.zr105 rfl rfl rfl rfl hS17 rfl ((rdH_rd (hS17.focus 2 rfl)).src) (flat_noAgg prc_na _) (by omega) (by omega) (fun a21 c22 w20 hS20 => ?_)
    replace hS20 : St B (own a21 (0 + u.lb.l.length) c22 105 2 ([] ++ (u.lb.l.flatMap prc)) :: cel g12 (mrc u) 99 :: (labA u.lb) :: (ptsA u.pt) :: own oa Rs.length oc 93 3 (Rs.flatMap mrc) :: allA mrA Rs :: cel g6 [Value.int .i64 b1.first, Value.int .i64 b1.to, Value.slice oa Rs.length oc, Value.slice none 0 0] 46 :: allA mrA b1.rs.l :: cel g2 (blc b1) 51 :: (rsA b1.rs) :: cel g4 [Value.int .i64 0, Value.int .i64 0, Value.slice none 0 0, Value.slice none 0 0] 46 :: (dsA b1.ds) :: allA recA b1.ds.l :: blA b1 :: L) w20 := hS20
    clear hS17
    refine WO.nil ?_
    have s23 : (∀ jz, World.cell? w20 ⟨g12, jz, none⟩ = (mrc u)[jz]?) ∧ (∀ jz, World.cell? w20 ⟨g6, jz, none⟩ = [Value.int .i64 b1.first, Value.int .i64 b1.to, Value.slice oa Rs.length oc, Value.slice none 0 0][jz]?) := ⟨hS20.cel_at 1 rfl, hS20.cel_at 6 rfl⟩
    refine NX.held s23 ?_
    refine WD.one (i := 8) t54_6 (bt 17 2047) rfl (by kernel_rfl) ?_
    refine WO.buildSlice (l := []) hS20 Tryz.underlying66 rfl (fun w => by kernel_rfl) rfl (fun g25 w24 lg25 hS24 => ?_)
    clear hS20
    have hS24 := hS24.own_of_cel (m := 0) (k := 2) rfl
    refine WO.nil ?_
    have s26 : (∀ jz, World.cell? w24 ⟨g12, jz, none⟩ = (mrc u)[jz]?) ∧ (∀ jz, World.cell? w24 ⟨g6, jz, none⟩ = [Value.int .i64 b1.first, Value.int .i64 b1.to, Value.slice oa Rs.length oc, Value.slice none 0 0][jz]?) := ⟨hS24.cel_at 2 rfl, hS24.cel_at 7 rfl⟩
    refine NX.held s26 ?_
    refine WD.one (i := 11) t54_6 (bt 17 4095) rfl (by kernel_rfl) ?_
    refine WO.append (news := (u.pt.l.flatMap ptc)) 0 rfl Tryz.underlying66 Tryz.underlying66 (fun _ h => by cases h) Ty.sz103 (by decide) Ty.by103 Ty.zr103 rfl rfl rfl rfl hS24 rfl ((rdH_rd (hS24.focus 4 rfl)).src) (flat_noAgg ptc_na _) (by omega) (by omega) (fun a28 c29 w27 hS27 => ?_)
    replace hS27 : St B (own a28 (0 + u.pt.l.length) c29 103 2 ([] ++ (u.pt.l.flatMap ptc)) :: own a21 (0 + u.lb.l.length) c22 105 2 ([] ++ (u.lb.l.flatMap prc)) :: cel g12 (mrc u) 99 :: (labA u.lb) :: (ptsA u.pt) :: own oa Rs.length oc 93 3 (Rs.flatMap mrc) :: allA mrA Rs :: cel g6 [Value.int .i64 b1.first, Value.int .i64 b1.to, Value.slice oa Rs.length oc, Value.slice none 0 0] 46 :: allA mrA b1.rs.l :: cel g2 (blc b1) 51 :: (rsA b1.rs) :: cel g4 [Value.int .i64 0, Value.int .i64 0, Value.slice none 0 0, Value.slice none 0 0] 46 :: (dsA b1.ds) :: allA recA b1.ds.l :: blA b1 :: L) w27 := hS27
    clear hS24
    refine WO.nil ?_
    have s30 : (∀ jz, World.cell? w27 ⟨g12, jz, none⟩ = (mrc u)[jz]?) ∧ (∀ jz, World.cell? w27 ⟨g6, jz, none⟩ = [Value.int .i64 b1.first, Value.int .i64 b1.to, Value.slice oa Rs.length oc, Value.slice none 0 0][jz]?) := ⟨hS27.cel_at 2 rfl, hS27.cel_at 7 rfl⟩
    refine NX.held s30 ?_
    refine DP (i := 12) t54_6 (bt 17 8191) rfl rfl rfl rfl (fun w => run_build (v := Value.agg #[Value.slice a21 (0 + u.lb.l.length) c22, Value.int .i64 u.last, Value.slice a28 (0 + u.pt.l.length) c29]) rfl (fun w => by kernel_rfl)) ?_
    refine WD.one (i := 13) t54_6 (bt 17 16383) rfl (by kernel_rfl) ?_
    refine WO.buildSlice (l := [Value.slice a21 (0 + u.lb.l.length) c22, Value.int .i64 u.last, Value.slice a28 (0 + u.pt.l.length) c29]) hS27 Tryz.underlying44 rfl (fun w => by kernel_rfl) rfl (fun g32 w31 lg32 hS31 => ?_)
    clear hS27
    refine WO.nil ?_
    have s33 : (∀ jz, World.cell? w31 ⟨g12, jz, none⟩ = (mrc u)[jz]?) ∧ (∀ jz, World.cell? w31 ⟨g6, jz, none⟩ = [Value.int .i64 b1.first, Value.int .i64 b1.to, Value.slice oa Rs.length oc, Value.slice none 0 0][jz]?) := ⟨hS31.cel_at 3 rfl, hS31.cel_at 8 rfl⟩
    refine NX.held s33 ?_
    refine WD.one (i := 14) t54_6 (bt 17 32767) rfl (by kernel_rfl) ?_
    refine WO.append (news := [Value.slice a21 (0 + u.lb.l.length) c22, Value.int .i64 u.last, Value.slice a28 (0 + u.pt.l.length) c29]) 6 rfl Tryz.underlying44 Tryz.underlying44 (fun _ h => by cases h) Ty.sz93 (by decide) Ty.by93 Ty.zr93 rfl rfl rfl rfl hS31 rfl ((hS31.cel_rd 0 rfl (o := 0) (m := 1) (k := 3) rfl (Nat.le_of_ble_eq_true rfl)).src) rfl (by omega) (by omega) (fun a35 c36 w34 hS34 => ?_)
    replace hS34 : St B (cel g32 [Value.slice a21 (0 + u.lb.l.length) c22, Value.int .i64 u.last, Value.slice a28 (0 + u.pt.l.length) c29] 93 :: own a28 (0 + u.pt.l.length) c29 103 2 ([] ++ (u.pt.l.flatMap ptc)) :: own a21 (0 + u.lb.l.length) c22 105 2 ([] ++ (u.lb.l.flatMap prc)) :: cel g12 (mrc u) 99 :: (labA u.lb) :: (ptsA u.pt) :: own a35 (Rs.length + 1) c36 93 3 ((Rs.flatMap mrc) ++ [Value.slice a21 (0 + u.lb.l.length) c22, Value.int .i64 u.last, Value.slice a28 (0 + u.pt.l.length) c29]) :: allA mrA Rs :: cel g6 [Value.int .i64 b1.first, Value.int .i64 b1.to, Value.slice oa Rs.length oc, Value.slice none 0 0] 46 :: allA mrA b1.rs.l :: cel g2 (blc b1) 51 :: (rsA b1.rs) :: cel g4 [Value.int .i64 0, Value.int .i64 0, Value.slice none 0 0, Value.slice none 0 0] 46 :: (dsA b1.ds) :: allA recA b1.ds.l :: blA b1 :: L) w34 := hS34
    clear hS31
    refine WO.nil ?_
    have s37 : (∀ jz, World.cell? w34 ⟨g12, jz, none⟩ = (mrc u)[jz]?) ∧ (∀ jz, World.cell? w34 ⟨g6, jz, none⟩ = [Value.int .i64 b1.first, Value.int .i64 b1.to, Value.slice oa Rs.length oc, Value.slice none 0 0][jz]?) := ⟨hS34.cel_at 3 rfl, hS34.cel_at 8 rfl⟩
    refine NX.held s37 ?_
    refine DP (i := 15) t54_6 (bt 17 65535) rfl rfl rfl rfl (fun w => run_fa 2 ⟨g6, 2, none⟩ rfl rfl) ?_
    refine WD.one (i := 16) t54_6 (bt 17 131071) rfl (by kernel_rfl) ?_
    refine WO.store (l' := [Value.int .i64 b1.first, Value.int .i64 b1.to, Value.slice a35 (Rs.length + 1) c36, Value.slice none 0 0]) 8 hS34 rfl Ty.sz44 rfl rfl rfl rfl rfl (Nat.le_of_ble_eq_true rfl) rfl (fun w38 (hS38 : St B (cel g32 [Value.slice a21 (0 + u.lb.l.length) c22, Value.int .i64 u.last, Value.slice a28 (0 + u.pt.l.length) c29] 93 :: own a28 (0 + u.pt.l.length) c29 103 2 ([] ++ (u.pt.l.flatMap ptc)) :: own a21 (0 + u.lb.l.length) c22 105 2 ([] ++ (u.lb.l.flatMap prc)) :: cel g12 (mrc u) 99 :: (labA u.lb) :: (ptsA u.pt) :: own a35 (Rs.length + 1) c36 93 3 ((Rs.flatMap mrc) ++ [Value.slice a21 (0 + u.lb.l.length) c22, Value.int .i64 u.last, Value.slice a28 (0 + u.pt.l.length) c29]) :: allA mrA Rs :: cel g6 [Value.int .i64 b1.first, Value.int .i64 b1.to, Value.slice a35 (Rs.length + 1) c36, Value.slice none 0 0] 46 :: allA mrA b1.rs.l :: cel g2 (blc b1) 51 :: (rsA b1.rs) :: cel g4 [Value.int .i64 0, Value.int .i64 0, Value.slice none 0 0, Value.slice none 0 0] 46 :: (dsA b1.ds) :: allA recA b1.ds.l :: blA b1 :: L) w38) => ?_)
    clear hS34
    refine WO.nil ?_
    refine NX.last (by decide) ?_
    refine WD.done t54_6 (by kernel_rfl) ?_
    refine NX.blk (NX.go (WP.region rfl ?_))
    refine WO.mv rfl rfl ?_
    refine WO.V (run_add rfl rfl (IntWalk.i64_in _ (by omega))) ?_
    refine WO.asg rfl rfl ?_
    refine WO.nil ?_
    have hS39 : St B (own a28 (0 + u.pt.l.length) c29 103 2 ([] ++ (u.pt.l.flatMap ptc)) :: own a21 (0 + u.lb.l.length) c22 105 2 ([] ++ (u.lb.l.flatMap prc)) :: own a35 (Rs.length + 1) c36 93 3 ((Rs.flatMap mrc) ++ [Value.slice a21 (0 + u.lb.l.length) c22, Value.int .i64 u.last, Value.slice a28 (0 + u.pt.l.length) c29]) :: allA mrA Rs :: cel g6 [Value.int .i64 b1.first, Value.int .i64 b1.to, Value.slice a35 (Rs.length + 1) c36, Value.slice none 0 0] 46 :: allA mrA b1.rs.l :: cel g2 (blc b1) 51 :: (rsA b1.rs) :: cel g4 [Value.int .i64 0, Value.int .i64 0, Value.slice none 0 0, Value.slice none 0 0] 46 :: (dsA b1.ds) :: allA recA b1.ds.l :: blA b1 :: L) w38 := (hS38.mask [false, true, true, false, false, false] (L' := own a28 (0 + u.pt.l.length) c29 103 2 ([] ++ (u.pt.l.flatMap ptc)) :: own a21 (0 + u.lb.l.length) c22 105 2 ([] ++ (u.lb.l.flatMap prc)) :: own a35 (Rs.length + 1) c36 93 3 ((Rs.flatMap mrc) ++ [Value.slice a21 (0 + u.lb.l.length) c22, Value.int .i64 u.last, Value.slice a28 (0 + u.pt.l.length) c29]) :: allA mrA Rs :: cel g6 [Value.int .i64 b1.first, Value.int .i64 b1.to, Value.slice a35 (Rs.length + 1) c36, Value.slice none 0 0] 46 :: allA mrA b1.rs.l :: cel g2 (blc b1) 51 :: (rsA b1.rs) :: cel g4 [Value.int .i64 0, Value.int .i64 0, Value.slice none 0 0, Value.slice none 0 0] 46 :: (dsA b1.ds) :: allA recA b1.ds.l :: blA b1 :: L) rfl)
    clear hS38
    have hS40 : St B (labA ((⟨⟨a21, u.lb.l, c22⟩, u.last, ⟨a28, u.pt.l, c29⟩⟩ : MRow)).lb :: own a28 (0 + u.pt.l.length) c29 103 2 ([] ++ (u.pt.l.flatMap ptc)) :: own a35 (Rs.length + 1) c36 93 3 ((Rs.flatMap mrc) ++ [Value.slice a21 (0 + u.lb.l.length) c22, Value.int .i64 u.last, Value.slice a28 (0 + u.pt.l.length) c29]) :: allA mrA Rs :: cel g6 [Value.int .i64 b1.first, Value.int .i64 b1.to, Value.slice a35 (Rs.length + 1) c36, Value.slice none 0 0] 46 :: allA mrA b1.rs.l :: cel g2 (blc b1) 51 :: (rsA b1.rs) :: cel g4 [Value.int .i64 0, Value.int .i64 0, Value.slice none 0 0, Value.slice none 0 0] 46 :: (dsA b1.ds) :: allA recA b1.ds.l :: blA b1 :: L) w38 := rdH_own (own_eqM (hS39.permT [1] (L' := own a21 (0 + u.lb.l.length) c22 105 2 ([] ++ (u.lb.l.flatMap prc)) :: own a28 (0 + u.pt.l.length) c29 103 2 ([] ++ (u.pt.l.flatMap ptc)) :: own a35 (Rs.length + 1) c36 93 3 ((Rs.flatMap mrc) ++ [Value.slice a21 (0 + u.lb.l.length) c22, Value.int .i64 u.last, Value.slice a28 (0 + u.pt.l.length) c29]) :: allA mrA Rs :: cel g6 [Value.int .i64 b1.first, Value.int .i64 b1.to, Value.slice a35 (Rs.length + 1) c36, Value.slice none 0 0] 46 :: allA mrA b1.rs.l :: cel g2 (blc b1) 51 :: (rsA b1.rs) :: cel g4 [Value.int .i64 0, Value.int .i64 0, Value.slice none 0 0, Value.slice none 0 0] 46 :: (dsA b1.ds) :: allA recA b1.ds.l :: blA b1 :: L) rfl) (by simp) (by simp))
    clear hS39
    have hS41 : St B (ptsA ((⟨⟨a21, u.lb.l, c22⟩, u.last, ⟨a28, u.pt.l, c29⟩⟩ : MRow)).pt :: labA ((⟨⟨a21, u.lb.l, c22⟩, u.last, ⟨a28, u.pt.l, c29⟩⟩ : MRow)).lb :: own a35 (Rs.length + 1) c36 93 3 ((Rs.flatMap mrc) ++ [Value.slice a21 (0 + u.lb.l.length) c22, Value.int .i64 u.last, Value.slice a28 (0 + u.pt.l.length) c29]) :: allA mrA Rs :: cel g6 [Value.int .i64 b1.first, Value.int .i64 b1.to, Value.slice a35 (Rs.length + 1) c36, Value.slice none 0 0] 46 :: allA mrA b1.rs.l :: cel g2 (blc b1) 51 :: (rsA b1.rs) :: cel g4 [Value.int .i64 0, Value.int .i64 0, Value.slice none 0 0, Value.slice none 0 0] 46 :: (dsA b1.ds) :: allA recA b1.ds.l :: blA b1 :: L) w38 := rdH_own (own_eqM (hS40.permT [1] (L' := own a28 (0 + u.pt.l.length) c29 103 2 ([] ++ (u.pt.l.flatMap ptc)) :: labA ((⟨⟨a21, u.lb.l, c22⟩, u.last, ⟨a28, u.pt.l, c29⟩⟩ : MRow)).lb :: own a35 (Rs.length + 1) c36 93 3 ((Rs.flatMap mrc) ++ [Value.slice a21 (0 + u.lb.l.length) c22, Value.int .i64 u.last, Value.slice a28 (0 + u.pt.l.length) c29]) :: allA mrA Rs :: cel g6 [Value.int .i64 b1.first, Value.int .i64 b1.to, Value.slice a35 (Rs.length + 1) c36, Value.slice none 0 0] 46 :: allA mrA b1.rs.l :: cel g2 (blc b1) 51 :: (rsA b1.rs) :: cel g4 [Value.int .i64 0, Value.int .i64 0, Value.slice none 0 0, Value.slice none 0 0] 46 :: (dsA b1.ds) :: allA recA b1.ds.l :: blA b1 :: L) rfl) (by simp) (by simp))
    clear hS40
    have hS42 : St B (mrA (⟨⟨a21, u.lb.l, c22⟩, u.last, ⟨a28, u.pt.l, c29⟩⟩ : MRow) :: own a35 (Rs.length + 1) c36 93 3 ((Rs.flatMap mrc) ++ [Value.slice a21 (0 + u.lb.l.length) c22, Value.int .i64 u.last, Value.slice a28 (0 + u.pt.l.length) c29]) :: allA mrA Rs :: cel g6 [Value.int .i64 b1.first, Value.int .i64 b1.to, Value.slice a35 (Rs.length + 1) c36, Value.slice none 0 0] 46 :: allA mrA b1.rs.l :: cel g2 (blc b1) 51 :: (rsA b1.rs) :: cel g4 [Value.int .i64 0, Value.int .i64 0, Value.slice none 0 0, Value.slice none 0 0] 46 :: (dsA b1.ds) :: allA recA b1.ds.l :: blA b1 :: L) w38 := ((hS41.permT [1] (L' := labA ((⟨⟨a21, u.lb.l, c22⟩, u.last, ⟨a28, u.pt.l, c29⟩⟩ : MRow)).lb :: ptsA ((⟨⟨a21, u.lb.l, c22⟩, u.last, ⟨a28, u.pt.l, c29⟩⟩ : MRow)).pt :: own a35 (Rs.length + 1) c36 93 3 ((Rs.flatMap mrc) ++ [Value.slice a21 (0 + u.lb.l.length) c22, Value.int .i64 u.last, Value.slice a28 (0 + u.pt.l.length) c29]) :: allA mrA Rs :: cel g6 [Value.int .i64 b1.first, Value.int .i64 b1.to, Value.slice a35 (Rs.length + 1) c36, Value.slice none 0 0] 46 :: allA mrA b1.rs.l :: cel g2 (blc b1) 51 :: (rsA b1.rs) :: cel g4 [Value.int .i64 0, Value.int .i64 0, Value.slice none 0 0, Value.slice none 0 0] 46 :: (dsA b1.ds) :: allA recA b1.ds.l :: blA b1 :: L) rfl)).join
    clear hS41
    have hS43 := allA_snoc (hS42.permT [2] (L' := allA mrA Rs :: mrA (⟨⟨a21, u.lb.l, c22⟩, u.last, ⟨a28, u.pt.l, c29⟩⟩ : MRow) :: own a35 (Rs.length + 1) c36 93 3 ((Rs.flatMap mrc) ++ [Value.slice a21 (0 + u.lb.l.length) c22, Value.int .i64 u.last, Value.slice a28 (0 + u.pt.l.length) c29]) :: cel g6 [Value.int .i64 b1.first, Value.int .i64 b1.to, Value.slice a35 (Rs.length + 1) c36, Value.slice none 0 0] 46 :: allA mrA b1.rs.l :: cel g2 (blc b1) 51 :: (rsA b1.rs) :: cel g4 [Value.int .i64 0, Value.int .i64 0, Value.slice none 0 0, Value.slice none 0 0] 46 :: (dsA b1.ds) :: allA recA b1.ds.l :: blA b1 :: L) rfl)
    clear hS42
    have hlen9 : (Rs.length + 1) = (Rs ++ [(⟨⟨a21, u.lb.l, c22⟩, u.last, ⟨a28, u.pt.l, c29⟩⟩ : MRow)]).length := by simp
    have hS44 : St B (cel g6 [Value.int .i64 b1.first, Value.int .i64 b1.to, Value.slice a35 ((Rs ++ [(⟨⟨a21, u.lb.l, c22⟩, u.last, ⟨a28, u.pt.l, c29⟩⟩ : MRow)]).length) c36, Value.slice none 0 0] 46 :: own a35 ((Rs ++ [(⟨⟨a21, u.lb.l, c22⟩, u.last, ⟨a28, u.pt.l, c29⟩⟩ : MRow)]).length) c36 93 3 ((Rs ++ [(⟨⟨a21, u.lb.l, c22⟩, u.last, ⟨a28, u.pt.l, c29⟩⟩ : MRow)]).flatMap mrc) :: allA mrA (Rs ++ [(⟨⟨a21, u.lb.l, c22⟩, u.last, ⟨a28, u.pt.l, c29⟩⟩ : MRow)]) :: allA mrA b1.rs.l :: cel g2 (blc b1) 51 :: (rsA b1.rs) :: cel g4 [Value.int .i64 0, Value.int .i64 0, Value.slice none 0 0, Value.slice none 0 0] 46 :: (dsA b1.ds) :: allA recA b1.ds.l :: blA b1 :: L) w38 := by have z := (hS43.permT [2, 1] (L' := cel g6 [Value.int .i64 b1.first, Value.int .i64 b1.to, Value.slice a35 (Rs.length + 1) c36, Value.slice none 0 0] 46 :: own a35 (Rs.length + 1) c36 93 3 ((Rs.flatMap mrc) ++ [Value.slice a21 (0 + u.lb.l.length) c22, Value.int .i64 u.last, Value.slice a28 (0 + u.pt.l.length) c29]) :: allA mrA (Rs ++ [(⟨⟨a21, u.lb.l, c22⟩, u.last, ⟨a28, u.pt.l, c29⟩⟩ : MRow)]) :: allA mrA b1.rs.l :: cel g2 (blc b1) 51 :: (rsA b1.rs) :: cel g4 [Value.int .i64 0, Value.int .i64 0, Value.slice none 0 0, Value.slice none 0 0] 46 :: (dsA b1.ds) :: allA recA b1.ds.l :: blA b1 :: L) rfl); rw [hlen9] at z; have z2 := own_eqM (z.permT [1, 0] (L' := own a35 ((Rs ++ [(⟨⟨a21, u.lb.l, c22⟩, u.last, ⟨a28, u.pt.l, c29⟩⟩ : MRow)]).length) c36 93 3 ((Rs.flatMap mrc) ++ [Value.slice a21 (0 + u.lb.l.length) c22, Value.int .i64 u.last, Value.slice a28 (0 + u.pt.l.length) c29]) :: cel g6 [Value.int .i64 b1.first, Value.int .i64 b1.to, Value.slice a35 ((Rs ++ [(⟨⟨a21, u.lb.l, c22⟩, u.last, ⟨a28, u.pt.l, c29⟩⟩ : MRow)]).length) c36, Value.slice none 0 0] 46 :: allA mrA (Rs ++ [(⟨⟨a21, u.lb.l, c22⟩, u.last, ⟨a28, u.pt.l, c29⟩⟩ : MRow)]) :: allA mrA b1.rs.l :: cel g2 (blc b1) 51 :: (rsA b1.rs) :: cel g4 [Value.int .i64 0, Value.int .i64 0, Value.slice none 0 0, Value.slice none 0 0] 46 :: (dsA b1.ds) :: allA recA b1.ds.l :: blA b1 :: L) rfl) rfl (show _ = ((Rs ++ [(⟨⟨a21, u.lb.l, c22⟩, u.last, ⟨a28, u.pt.l, c29⟩⟩ : MRow)]).flatMap mrc) by simp [mrc]); exact z2.permT [1, 0] rfl
    clear hS43
    exact NX.again (i + 1, Rs ++ [(⟨⟨a21, u.lb.l, c22⟩, u.last, ⟨a28, u.pt.l, c29⟩⟩ : MRow)], a35, c36) ⟨⟨by omega, by rw [take_snocM hu, List.map_append, List.map_append, hRs]; rfl, by rw [List.length_append, hRn]; rfl⟩, (hS44.permT [1, 1, 0, 1, 1] (L' := own a35 ((Rs ++ [(⟨⟨a21, u.lb.l, c22⟩, u.last, ⟨a28, u.pt.l, c29⟩⟩ : MRow)]).length) c36 93 3 ((Rs ++ [(⟨⟨a21, u.lb.l, c22⟩, u.last, ⟨a28, u.pt.l, c29⟩⟩ : MRow)]).flatMap mrc) :: allA mrA (Rs ++ [(⟨⟨a21, u.lb.l, c22⟩, u.last, ⟨a28, u.pt.l, c29⟩⟩ : MRow)]) :: cel g6 [Value.int .i64 b1.first, Value.int .i64 b1.to, Value.slice a35 ((Rs ++ [(⟨⟨a21, u.lb.l, c22⟩, u.last, ⟨a28, u.pt.l, c29⟩⟩ : MRow)]).length) c36, Value.slice none 0 0] 46 :: cel g2 (blc b1) 51 :: (rsA b1.rs) :: allA mrA b1.rs.l :: cel g4 [Value.int .i64 0, Value.int .i64 0, Value.slice none 0 0, Value.slice none 0 0] 46 :: (dsA b1.ds) :: allA recA b1.ds.l :: blA b1 :: L) rfl)⟩ (by show b1.rs.l.length - (i + 1) < b1.rs.l.length - i; omega) (Sub.cons rfl (Sub.cons rfl (Sub.cons rfl (Sub.consE rfl (by congr 1) (Sub.nil _)))))
   ·
    refine WO.buildSlice (l := []) hS17 Tryz.underlying66 rfl (fun w => by kernel_rfl) rfl (fun g46 w45 lg46 hS45 => ?_)
    clear hS17
    have hS45 := hS45.own_of_cel (m := 0) (k := 2) rfl
    refine WO.nil ?_
    have s47 : (∀ jz, World.cell? w45 ⟨g12, jz, none⟩ = (mrc u)[jz]?) ∧ (∀ jz, World.cell? w45 ⟨g6, jz, none⟩ = [Value.int .i64 b1.first, Value.int .i64 b1.to, Value.slice oa Rs.length oc, Value.slice none 0 0][jz]?) := ⟨hS45.cel_at 2 rfl, hS45.cel_at 7 rfl⟩
    refine NX.held s47 ?_
    refine WD.one (i := 5) t54_6 (bt 17 2047) rfl (by kernel_rfl) ?_
    refine WO.append (news := (u.lb.l.flatMap prc)) 1 rfl Tryz.underlying65 Tryz.underlying65 (fun _ h => by cases h) Ty.sz105 (by decide) Ty.by105 Ty.zr105 rfl rfl rfl rfl hS45 rfl ((rdH_rd (hS45.focus 3 rfl)).src) (flat_noAgg prc_na _) (by omega) (by omega) (fun a49 c50 w48 hS48 => ?_)
    replace hS48 : St B (own (some ⟨g46, 0, none⟩) 0 0 103 2 [] :: own a49 (0 + u.lb.l.length) c50 105 2 ([] ++ (u.lb.l.flatMap prc)) :: cel g12 (mrc u) 99 :: (labA u.lb) :: (ptsA u.pt) :: own oa Rs.length oc 93 3 (Rs.flatMap mrc) :: allA mrA Rs :: cel g6 [Value.int .i64 b1.first, Value.int .i64 b1.to, Value.slice oa Rs.length oc, Value.slice none 0 0] 46 :: allA mrA b1.rs.l :: cel g2 (blc b1) 51 :: (rsA b1.rs) :: cel g4 [Value.int .i64 0, Value.int .i64 0, Value.slice none 0 0, Value.slice none 0 0] 46 :: (dsA b1.ds) :: allA recA b1.ds.l :: blA b1 :: L) w48 := hS48
    clear hS45
    refine WO.nil ?_
    have s51 : (∀ jz, World.cell? w48 ⟨g12, jz, none⟩ = (mrc u)[jz]?) ∧ (∀ jz, World.cell? w48 ⟨g6, jz, none⟩ = [Value.int .i64 b1.first, Value.int .i64 b1.to, Value.slice oa Rs.length oc, Value.slice none 0 0][jz]?) := ⟨hS48.cel_at 2 rfl, hS48.cel_at 7 rfl⟩
    refine NX.held s51 ?_
    refine WD.one (i := 11) t54_6 (bt 17 4095) rfl (by kernel_rfl) ?_
    refine WO.append (news := (u.pt.l.flatMap ptc)) 0 rfl Tryz.underlying66 Tryz.underlying66 (fun _ h => by cases h) Ty.sz103 (by decide) Ty.by103 Ty.zr103 rfl rfl rfl rfl hS48 rfl ((rdH_rd (hS48.focus 4 rfl)).src) (flat_noAgg ptc_na _) (by omega) (by omega) (fun a53 c54 w52 hS52 => ?_)
    replace hS52 : St B (own a53 (0 + u.pt.l.length) c54 103 2 ([] ++ (u.pt.l.flatMap ptc)) :: own a49 (0 + u.lb.l.length) c50 105 2 ([] ++ (u.lb.l.flatMap prc)) :: cel g12 (mrc u) 99 :: (labA u.lb) :: (ptsA u.pt) :: own oa Rs.length oc 93 3 (Rs.flatMap mrc) :: allA mrA Rs :: cel g6 [Value.int .i64 b1.first, Value.int .i64 b1.to, Value.slice oa Rs.length oc, Value.slice none 0 0] 46 :: allA mrA b1.rs.l :: cel g2 (blc b1) 51 :: (rsA b1.rs) :: cel g4 [Value.int .i64 0, Value.int .i64 0, Value.slice none 0 0, Value.slice none 0 0] 46 :: (dsA b1.ds) :: allA recA b1.ds.l :: blA b1 :: L) w52 := hS52
    clear hS48
    refine WO.nil ?_
    have s55 : (∀ jz, World.cell? w52 ⟨g12, jz, none⟩ = (mrc u)[jz]?) ∧ (∀ jz, World.cell? w52 ⟨g6, jz, none⟩ = [Value.int .i64 b1.first, Value.int .i64 b1.to, Value.slice oa Rs.length oc, Value.slice none 0 0][jz]?) := ⟨hS52.cel_at 2 rfl, hS52.cel_at 7 rfl⟩
    refine NX.held s55 ?_
    refine DP (i := 12) t54_6 (bt 17 8191) rfl rfl rfl rfl (fun w => run_build (v := Value.agg #[Value.slice a49 (0 + u.lb.l.length) c50, Value.int .i64 u.last, Value.slice a53 (0 + u.pt.l.length) c54]) rfl (fun w => by kernel_rfl)) ?_
    refine WD.one (i := 13) t54_6 (bt 17 16383) rfl (by kernel_rfl) ?_
    refine WO.buildSlice (l := [Value.slice a49 (0 + u.lb.l.length) c50, Value.int .i64 u.last, Value.slice a53 (0 + u.pt.l.length) c54]) hS52 Tryz.underlying44 rfl (fun w => by kernel_rfl) rfl (fun g57 w56 lg57 hS56 => ?_)
    clear hS52
    refine WO.nil ?_
    have s58 : (∀ jz, World.cell? w56 ⟨g12, jz, none⟩ = (mrc u)[jz]?) ∧ (∀ jz, World.cell? w56 ⟨g6, jz, none⟩ = [Value.int .i64 b1.first, Value.int .i64 b1.to, Value.slice oa Rs.length oc, Value.slice none 0 0][jz]?) := ⟨hS56.cel_at 3 rfl, hS56.cel_at 8 rfl⟩
    refine NX.held s58 ?_
    refine WD.one (i := 14) t54_6 (bt 17 32767) rfl (by kernel_rfl) ?_
    refine WO.append (news := [Value.slice a49 (0 + u.lb.l.length) c50, Value.int .i64 u.last, Value.slice a53 (0 + u.pt.l.length) c54]) 6 rfl Tryz.underlying44 Tryz.underlying44 (fun _ h => by cases h) Ty.sz93 (by decide) Ty.by93 Ty.zr93 rfl rfl rfl rfl hS56 rfl ((hS56.cel_rd 0 rfl (o := 0) (m := 1) (k := 3) rfl (Nat.le_of_ble_eq_true rfl)).src) rfl (by omega) (by omega) (fun a60 c61 w59 hS59 => ?_)
    replace hS59 : St B (cel g57 [Value.slice a49 (0 + u.lb.l.length) c50, Value.int .i64 u.last, Value.slice a53 (0 + u.pt.l.length) c54] 93 :: own a53 (0 + u.pt.l.length) c54 103 2 ([] ++ (u.pt.l.flatMap ptc)) :: own a49 (0 + u.lb.l.length) c50 105 2 ([] ++ (u.lb.l.flatMap prc)) :: cel g12 (mrc u) 99 :: (labA u.lb) :: (ptsA u.pt) :: own a60 (Rs.length + 1) c61 93 3 ((Rs.flatMap mrc) ++ [Value.slice a49 (0 + u.lb.l.length) c50, Value.int .i64 u.last, Value.slice a53 (0 + u.pt.l.length) c54]) :: allA mrA Rs :: cel g6 [Value.int .i64 b1.first, Value.int .i64 b1.to, Value.slice oa Rs.length oc, Value.slice none 0 0] 46 :: allA mrA b1.rs.l :: cel g2 (blc b1) 51 :: (rsA b1.rs) :: cel g4 [Value.int .i64 0, Value.int .i64 0, Value.slice none 0 0, Value.slice none 0 0] 46 :: (dsA b1.ds) :: allA recA b1.ds.l :: blA b1 :: L) w59 := hS59
    clear hS56
    refine WO.nil ?_
    have s62 : (∀ jz, World.cell? w59 ⟨g12, jz, none⟩ = (mrc u)[jz]?) ∧ (∀ jz, World.cell? w59 ⟨g6, jz, none⟩ = [Value.int .i64 b1.first, Value.int .i64 b1.to, Value.slice oa Rs.length oc, Value.slice none 0 0][jz]?) := ⟨hS59.cel_at 3 rfl, hS59.cel_at 8 rfl⟩
    refine NX.held s62 ?_
    refine DP (i := 15) t54_6 (bt 17 65535) rfl rfl rfl rfl (fun w => run_fa 2 ⟨g6, 2, none⟩ rfl rfl) ?_
    refine WD.one (i := 16) t54_6 (bt 17 131071) rfl (by kernel_rfl) ?_
    refine WO.store (l' := [Value.int .i64 b1.first, Value.int .i64 b1.to, Value.slice a60 (Rs.length + 1) c61, Value.slice none 0 0]) 8 hS59 rfl Ty.sz44 rfl rfl rfl rfl rfl (Nat.le_of_ble_eq_true rfl) rfl (fun w63 (hS63 : St B (cel g57 [Value.slice a49 (0 + u.lb.l.length) c50, Value.int .i64 u.last, Value.slice a53 (0 + u.pt.l.length) c54] 93 :: own a53 (0 + u.pt.l.length) c54 103 2 ([] ++ (u.pt.l.flatMap ptc)) :: own a49 (0 + u.lb.l.length) c50 105 2 ([] ++ (u.lb.l.flatMap prc)) :: cel g12 (mrc u) 99 :: (labA u.lb) :: (ptsA u.pt) :: own a60 (Rs.length + 1) c61 93 3 ((Rs.flatMap mrc) ++ [Value.slice a49 (0 + u.lb.l.length) c50, Value.int .i64 u.last, Value.slice a53 (0 + u.pt.l.length) c54]) :: allA mrA Rs :: cel g6 [Value.int .i64 b1.first, Value.int .i64 b1.to, Value.slice a60 (Rs.length + 1) c61, Value.slice none 0 0] 46 :: allA mrA b1.rs.l :: cel g2 (blc b1) 51 :: (rsA b1.rs) :: cel g4 [Value.int .i64 0, Value.int .i64 0, Value.slice none 0 0, Value.slice none 0 0] 46 :: (dsA b1.ds) :: allA recA b1.ds.l :: blA b1 :: L) w63) => ?_)
    clear hS59
    refine WO.nil ?_
    refine NX.last (by decide) ?_
    refine WD.done t54_6 (by kernel_rfl) ?_
    refine NX.blk (NX.go (WP.region rfl ?_))
    refine WO.mv rfl rfl ?_
    refine WO.V (run_add rfl rfl (IntWalk.i64_in _ (by omega))) ?_
    refine WO.asg rfl rfl ?_
    refine WO.nil ?_
    have hS64 : St B (own a53 (0 + u.pt.l.length) c54 103 2 ([] ++ (u.pt.l.flatMap ptc)) :: own a49 (0 + u.lb.l.length) c50 105 2 ([] ++ (u.lb.l.flatMap prc)) :: own a60 (Rs.length + 1) c61 93 3 ((Rs.flatMap mrc) ++ [Value.slice a49 (0 + u.lb.l.length) c50, Value.int .i64 u.last, Value.slice a53 (0 + u.pt.l.length) c54]) :: allA mrA Rs :: cel g6 [Value.int .i64 b1.first, Value.int .i64 b1.to, Value.slice a60 (Rs.length + 1) c61, Value.slice none 0 0] 46 :: allA mrA b1.rs.l :: cel g2 (blc b1) 51 :: (rsA b1.rs) :: cel g4 [Value.int .i64 0, Value.int .i64 0, Value.slice none 0 0, Value.slice none 0 0] 46 :: (dsA b1.ds) :: allA recA b1.ds.l :: blA b1 :: L) w63 := (hS63.mask [false, true, true, false, false, false] (L' := own a53 (0 + u.pt.l.length) c54 103 2 ([] ++ (u.pt.l.flatMap ptc)) :: own a49 (0 + u.lb.l.length) c50 105 2 ([] ++ (u.lb.l.flatMap prc)) :: own a60 (Rs.length + 1) c61 93 3 ((Rs.flatMap mrc) ++ [Value.slice a49 (0 + u.lb.l.length) c50, Value.int .i64 u.last, Value.slice a53 (0 + u.pt.l.length) c54]) :: allA mrA Rs :: cel g6 [Value.int .i64 b1.first, Value.int .i64 b1.to, Value.slice a60 (Rs.length + 1) c61, Value.slice none 0 0] 46 :: allA mrA b1.rs.l :: cel g2 (blc b1) 51 :: (rsA b1.rs) :: cel g4 [Value.int .i64 0, Value.int .i64 0, Value.slice none 0 0, Value.slice none 0 0] 46 :: (dsA b1.ds) :: allA recA b1.ds.l :: blA b1 :: L) rfl)
    clear hS63
    have hS65 : St B (labA ((⟨⟨a49, u.lb.l, c50⟩, u.last, ⟨a53, u.pt.l, c54⟩⟩ : MRow)).lb :: own a53 (0 + u.pt.l.length) c54 103 2 ([] ++ (u.pt.l.flatMap ptc)) :: own a60 (Rs.length + 1) c61 93 3 ((Rs.flatMap mrc) ++ [Value.slice a49 (0 + u.lb.l.length) c50, Value.int .i64 u.last, Value.slice a53 (0 + u.pt.l.length) c54]) :: allA mrA Rs :: cel g6 [Value.int .i64 b1.first, Value.int .i64 b1.to, Value.slice a60 (Rs.length + 1) c61, Value.slice none 0 0] 46 :: allA mrA b1.rs.l :: cel g2 (blc b1) 51 :: (rsA b1.rs) :: cel g4 [Value.int .i64 0, Value.int .i64 0, Value.slice none 0 0, Value.slice none 0 0] 46 :: (dsA b1.ds) :: allA recA b1.ds.l :: blA b1 :: L) w63 := rdH_own (own_eqM (hS64.permT [1] (L' := own a49 (0 + u.lb.l.length) c50 105 2 ([] ++ (u.lb.l.flatMap prc)) :: own a53 (0 + u.pt.l.length) c54 103 2 ([] ++ (u.pt.l.flatMap ptc)) :: own a60 (Rs.length + 1) c61 93 3 ((Rs.flatMap mrc) ++ [Value.slice a49 (0 + u.lb.l.length) c50, Value.int .i64 u.last, Value.slice a53 (0 + u.pt.l.length) c54]) :: allA mrA Rs :: cel g6 [Value.int .i64 b1.first, Value.int .i64 b1.to, Value.slice a60 (Rs.length + 1) c61, Value.slice none 0 0] 46 :: allA mrA b1.rs.l :: cel g2 (blc b1) 51 :: (rsA b1.rs) :: cel g4 [Value.int .i64 0, Value.int .i64 0, Value.slice none 0 0, Value.slice none 0 0] 46 :: (dsA b1.ds) :: allA recA b1.ds.l :: blA b1 :: L) rfl) (by simp) (by simp))
    clear hS64
    have hS66 : St B (ptsA ((⟨⟨a49, u.lb.l, c50⟩, u.last, ⟨a53, u.pt.l, c54⟩⟩ : MRow)).pt :: labA ((⟨⟨a49, u.lb.l, c50⟩, u.last, ⟨a53, u.pt.l, c54⟩⟩ : MRow)).lb :: own a60 (Rs.length + 1) c61 93 3 ((Rs.flatMap mrc) ++ [Value.slice a49 (0 + u.lb.l.length) c50, Value.int .i64 u.last, Value.slice a53 (0 + u.pt.l.length) c54]) :: allA mrA Rs :: cel g6 [Value.int .i64 b1.first, Value.int .i64 b1.to, Value.slice a60 (Rs.length + 1) c61, Value.slice none 0 0] 46 :: allA mrA b1.rs.l :: cel g2 (blc b1) 51 :: (rsA b1.rs) :: cel g4 [Value.int .i64 0, Value.int .i64 0, Value.slice none 0 0, Value.slice none 0 0] 46 :: (dsA b1.ds) :: allA recA b1.ds.l :: blA b1 :: L) w63 := rdH_own (own_eqM (hS65.permT [1] (L' := own a53 (0 + u.pt.l.length) c54 103 2 ([] ++ (u.pt.l.flatMap ptc)) :: labA ((⟨⟨a49, u.lb.l, c50⟩, u.last, ⟨a53, u.pt.l, c54⟩⟩ : MRow)).lb :: own a60 (Rs.length + 1) c61 93 3 ((Rs.flatMap mrc) ++ [Value.slice a49 (0 + u.lb.l.length) c50, Value.int .i64 u.last, Value.slice a53 (0 + u.pt.l.length) c54]) :: allA mrA Rs :: cel g6 [Value.int .i64 b1.first, Value.int .i64 b1.to, Value.slice a60 (Rs.length + 1) c61, Value.slice none 0 0] 46 :: allA mrA b1.rs.l :: cel g2 (blc b1) 51 :: (rsA b1.rs) :: cel g4 [Value.int .i64 0, Value.int .i64 0, Value.slice none 0 0, Value.slice none 0 0] 46 :: (dsA b1.ds) :: allA recA b1.ds.l :: blA b1 :: L) rfl) (by simp) (by simp))
    clear hS65
    have hS67 : St B (mrA (⟨⟨a49, u.lb.l, c50⟩, u.last, ⟨a53, u.pt.l, c54⟩⟩ : MRow) :: own a60 (Rs.length + 1) c61 93 3 ((Rs.flatMap mrc) ++ [Value.slice a49 (0 + u.lb.l.length) c50, Value.int .i64 u.last, Value.slice a53 (0 + u.pt.l.length) c54]) :: allA mrA Rs :: cel g6 [Value.int .i64 b1.first, Value.int .i64 b1.to, Value.slice a60 (Rs.length + 1) c61, Value.slice none 0 0] 46 :: allA mrA b1.rs.l :: cel g2 (blc b1) 51 :: (rsA b1.rs) :: cel g4 [Value.int .i64 0, Value.int .i64 0, Value.slice none 0 0, Value.slice none 0 0] 46 :: (dsA b1.ds) :: allA recA b1.ds.l :: blA b1 :: L) w63 := ((hS66.permT [1] (L' := labA ((⟨⟨a49, u.lb.l, c50⟩, u.last, ⟨a53, u.pt.l, c54⟩⟩ : MRow)).lb :: ptsA ((⟨⟨a49, u.lb.l, c50⟩, u.last, ⟨a53, u.pt.l, c54⟩⟩ : MRow)).pt :: own a60 (Rs.length + 1) c61 93 3 ((Rs.flatMap mrc) ++ [Value.slice a49 (0 + u.lb.l.length) c50, Value.int .i64 u.last, Value.slice a53 (0 + u.pt.l.length) c54]) :: allA mrA Rs :: cel g6 [Value.int .i64 b1.first, Value.int .i64 b1.to, Value.slice a60 (Rs.length + 1) c61, Value.slice none 0 0] 46 :: allA mrA b1.rs.l :: cel g2 (blc b1) 51 :: (rsA b1.rs) :: cel g4 [Value.int .i64 0, Value.int .i64 0, Value.slice none 0 0, Value.slice none 0 0] 46 :: (dsA b1.ds) :: allA recA b1.ds.l :: blA b1 :: L) rfl)).join
    clear hS66
    have hS68 := allA_snoc (hS67.permT [2] (L' := allA mrA Rs :: mrA (⟨⟨a49, u.lb.l, c50⟩, u.last, ⟨a53, u.pt.l, c54⟩⟩ : MRow) :: own a60 (Rs.length + 1) c61 93 3 ((Rs.flatMap mrc) ++ [Value.slice a49 (0 + u.lb.l.length) c50, Value.int .i64 u.last, Value.slice a53 (0 + u.pt.l.length) c54]) :: cel g6 [Value.int .i64 b1.first, Value.int .i64 b1.to, Value.slice a60 (Rs.length + 1) c61, Value.slice none 0 0] 46 :: allA mrA b1.rs.l :: cel g2 (blc b1) 51 :: (rsA b1.rs) :: cel g4 [Value.int .i64 0, Value.int .i64 0, Value.slice none 0 0, Value.slice none 0 0] 46 :: (dsA b1.ds) :: allA recA b1.ds.l :: blA b1 :: L) rfl)
    clear hS67
    have hlen9 : (Rs.length + 1) = (Rs ++ [(⟨⟨a49, u.lb.l, c50⟩, u.last, ⟨a53, u.pt.l, c54⟩⟩ : MRow)]).length := by simp
    have hS69 : St B (cel g6 [Value.int .i64 b1.first, Value.int .i64 b1.to, Value.slice a60 ((Rs ++ [(⟨⟨a49, u.lb.l, c50⟩, u.last, ⟨a53, u.pt.l, c54⟩⟩ : MRow)]).length) c61, Value.slice none 0 0] 46 :: own a60 ((Rs ++ [(⟨⟨a49, u.lb.l, c50⟩, u.last, ⟨a53, u.pt.l, c54⟩⟩ : MRow)]).length) c61 93 3 ((Rs ++ [(⟨⟨a49, u.lb.l, c50⟩, u.last, ⟨a53, u.pt.l, c54⟩⟩ : MRow)]).flatMap mrc) :: allA mrA (Rs ++ [(⟨⟨a49, u.lb.l, c50⟩, u.last, ⟨a53, u.pt.l, c54⟩⟩ : MRow)]) :: allA mrA b1.rs.l :: cel g2 (blc b1) 51 :: (rsA b1.rs) :: cel g4 [Value.int .i64 0, Value.int .i64 0, Value.slice none 0 0, Value.slice none 0 0] 46 :: (dsA b1.ds) :: allA recA b1.ds.l :: blA b1 :: L) w63 := by have z := (hS68.permT [2, 1] (L' := cel g6 [Value.int .i64 b1.first, Value.int .i64 b1.to, Value.slice a60 (Rs.length + 1) c61, Value.slice none 0 0] 46 :: own a60 (Rs.length + 1) c61 93 3 ((Rs.flatMap mrc) ++ [Value.slice a49 (0 + u.lb.l.length) c50, Value.int .i64 u.last, Value.slice a53 (0 + u.pt.l.length) c54]) :: allA mrA (Rs ++ [(⟨⟨a49, u.lb.l, c50⟩, u.last, ⟨a53, u.pt.l, c54⟩⟩ : MRow)]) :: allA mrA b1.rs.l :: cel g2 (blc b1) 51 :: (rsA b1.rs) :: cel g4 [Value.int .i64 0, Value.int .i64 0, Value.slice none 0 0, Value.slice none 0 0] 46 :: (dsA b1.ds) :: allA recA b1.ds.l :: blA b1 :: L) rfl); rw [hlen9] at z; have z2 := own_eqM (z.permT [1, 0] (L' := own a60 ((Rs ++ [(⟨⟨a49, u.lb.l, c50⟩, u.last, ⟨a53, u.pt.l, c54⟩⟩ : MRow)]).length) c61 93 3 ((Rs.flatMap mrc) ++ [Value.slice a49 (0 + u.lb.l.length) c50, Value.int .i64 u.last, Value.slice a53 (0 + u.pt.l.length) c54]) :: cel g6 [Value.int .i64 b1.first, Value.int .i64 b1.to, Value.slice a60 ((Rs ++ [(⟨⟨a49, u.lb.l, c50⟩, u.last, ⟨a53, u.pt.l, c54⟩⟩ : MRow)]).length) c61, Value.slice none 0 0] 46 :: allA mrA (Rs ++ [(⟨⟨a49, u.lb.l, c50⟩, u.last, ⟨a53, u.pt.l, c54⟩⟩ : MRow)]) :: allA mrA b1.rs.l :: cel g2 (blc b1) 51 :: (rsA b1.rs) :: cel g4 [Value.int .i64 0, Value.int .i64 0, Value.slice none 0 0, Value.slice none 0 0] 46 :: (dsA b1.ds) :: allA recA b1.ds.l :: blA b1 :: L) rfl) rfl (show _ = ((Rs ++ [(⟨⟨a49, u.lb.l, c50⟩, u.last, ⟨a53, u.pt.l, c54⟩⟩ : MRow)]).flatMap mrc) by simp [mrc]); exact z2.permT [1, 0] rfl
    clear hS68
    exact NX.again (i + 1, Rs ++ [(⟨⟨a49, u.lb.l, c50⟩, u.last, ⟨a53, u.pt.l, c54⟩⟩ : MRow)], a60, c61) ⟨⟨by omega, by rw [take_snocM hu, List.map_append, List.map_append, hRs]; rfl, by rw [List.length_append, hRn]; rfl⟩, (hS69.permT [1, 1, 0, 1, 1] (L' := own a60 ((Rs ++ [(⟨⟨a49, u.lb.l, c50⟩, u.last, ⟨a53, u.pt.l, c54⟩⟩ : MRow)]).length) c61 93 3 ((Rs ++ [(⟨⟨a49, u.lb.l, c50⟩, u.last, ⟨a53, u.pt.l, c54⟩⟩ : MRow)]).flatMap mrc) :: allA mrA (Rs ++ [(⟨⟨a49, u.lb.l, c50⟩, u.last, ⟨a53, u.pt.l, c54⟩⟩ : MRow)]) :: cel g6 [Value.int .i64 b1.first, Value.int .i64 b1.to, Value.slice a60 ((Rs ++ [(⟨⟨a49, u.lb.l, c50⟩, u.last, ⟨a53, u.pt.l, c54⟩⟩ : MRow)]).length) c61, Value.slice none 0 0] 46 :: cel g2 (blc b1) 51 :: (rsA b1.rs) :: allA mrA b1.rs.l :: cel g4 [Value.int .i64 0, Value.int .i64 0, Value.slice none 0 0, Value.slice none 0 0] 46 :: (dsA b1.ds) :: allA recA b1.ds.l :: blA b1 :: L) rfl)⟩ (by show b1.rs.l.length - (i + 1) < b1.rs.l.length - i; omega) (Sub.cons rfl (Sub.cons rfl (Sub.cons rfl (Sub.consE rfl (by congr 1) (Sub.nil _)))))
  ·
   refine WO.buildSlice (l := []) hS15 Tryz.underlying66 rfl (fun w => by kernel_rfl) rfl (fun g71 w70 lg71 hS70 => ?_)
   clear hS15
   have hS70 := hS70.own_of_cel (m := 0) (k := 2) rfl
   refine WO.nil ?_
   have s72 : (∀ jz, World.cell? w70 ⟨g12, jz, none⟩ = (mrc u)[jz]?) ∧ (∀ jz, World.cell? w70 ⟨g6, jz, none⟩ = [Value.int .i64 b1.first, Value.int .i64 b1.to, Value.slice oa Rs.length oc, Value.slice none 0 0][jz]?) := ⟨hS70.cel_at 1 rfl, hS70.cel_at 6 rfl⟩
   refine NX.held s72 ?_
   refine WD.one (i := 2) t54_6 (bt 17 2015) rfl (by kernel_rfl) ?_
   refine WO.buildSlice (l := []) hS70 Tryz.underlying65 rfl (fun w => by kernel_rfl) rfl (fun g74 w73 lg74 hS73 => ?_)
   clear hS70
   have hS73 := hS73.own_of_cel (m := 0) (k := 2) rfl
   refine WO.nil ?_
   have s75 : (∀ jz, World.cell? w73 ⟨g12, jz, none⟩ = (mrc u)[jz]?) ∧ (∀ jz, World.cell? w73 ⟨g6, jz, none⟩ = [Value.int .i64 b1.first, Value.int .i64 b1.to, Value.slice oa Rs.length oc, Value.slice none 0 0][jz]?) := ⟨hS73.cel_at 2 rfl, hS73.cel_at 7 rfl⟩
   refine NX.held s75 ?_
   refine WD.one (i := 5) t54_6 (bt 17 2047) rfl (by kernel_rfl) ?_
   refine WO.append (news := (u.lb.l.flatMap prc)) 0 rfl Tryz.underlying65 Tryz.underlying65 (fun _ h => by cases h) Ty.sz105 (by decide) Ty.by105 Ty.zr105 rfl rfl rfl rfl hS73 rfl ((rdH_rd (hS73.focus 3 rfl)).src) (flat_noAgg prc_na _) (by omega) (by omega) (fun a77 c78 w76 hS76 => ?_)
   replace hS76 : St B (own a77 (0 + u.lb.l.length) c78 105 2 ([] ++ (u.lb.l.flatMap prc)) :: own (some ⟨g71, 0, none⟩) 0 0 103 2 [] :: cel g12 (mrc u) 99 :: (labA u.lb) :: (ptsA u.pt) :: own oa Rs.length oc 93 3 (Rs.flatMap mrc) :: allA mrA Rs :: cel g6 [Value.int .i64 b1.first, Value.int .i64 b1.to, Value.slice oa Rs.length oc, Value.slice none 0 0] 46 :: allA mrA b1.rs.l :: cel g2 (blc b1) 51 :: (rsA b1.rs) :: cel g4 [Value.int .i64 0, Value.int .i64 0, Value.slice none 0 0, Value.slice none 0 0] 46 :: (dsA b1.ds) :: allA recA b1.ds.l :: blA b1 :: L) w76 := hS76
   clear hS73
   refine WO.nil ?_
   have s79 : (∀ jz, World.cell? w76 ⟨g12, jz, none⟩ = (mrc u)[jz]?) ∧ (∀ jz, World.cell? w76 ⟨g6, jz, none⟩ = [Value.int .i64 b1.first, Value.int .i64 b1.to, Value.slice oa Rs.length oc, Value.slice none 0 0][jz]?) := ⟨hS76.cel_at 2 rfl, hS76.cel_at 7 rfl⟩
   refine NX.held s79 ?_
   refine WD.one (i := 11) t54_6 (bt 17 4095) rfl (by kernel_rfl) ?_
   refine WO.append (news := (u.pt.l.flatMap ptc)) 1 rfl Tryz.underlying66 Tryz.underlying66 (fun _ h => by cases h) Ty.sz103 (by decide) Ty.by103 Ty.zr103 rfl rfl rfl rfl hS76 rfl ((rdH_rd (hS76.focus 4 rfl)).src) (flat_noAgg ptc_na _) (by omega) (by omega) (fun a81 c82 w80 hS80 => ?_)
   replace hS80 : St B (own a77 (0 + u.lb.l.length) c78 105 2 ([] ++ (u.lb.l.flatMap prc)) :: own a81 (0 + u.pt.l.length) c82 103 2 ([] ++ (u.pt.l.flatMap ptc)) :: cel g12 (mrc u) 99 :: (labA u.lb) :: (ptsA u.pt) :: own oa Rs.length oc 93 3 (Rs.flatMap mrc) :: allA mrA Rs :: cel g6 [Value.int .i64 b1.first, Value.int .i64 b1.to, Value.slice oa Rs.length oc, Value.slice none 0 0] 46 :: allA mrA b1.rs.l :: cel g2 (blc b1) 51 :: (rsA b1.rs) :: cel g4 [Value.int .i64 0, Value.int .i64 0, Value.slice none 0 0, Value.slice none 0 0] 46 :: (dsA b1.ds) :: allA recA b1.ds.l :: blA b1 :: L) w80 := hS80
   clear hS76
   refine WO.nil ?_
   have s83 : (∀ jz, World.cell? w80 ⟨g12, jz, none⟩ = (mrc u)[jz]?) ∧ (∀ jz, World.cell? w80 ⟨g6, jz, none⟩ = [Value.int .i64 b1.first, Value.int .i64 b1.to, Value.slice oa Rs.length oc, Value.slice none 0 0][jz]?) := ⟨hS80.cel_at 2 rfl, hS80.cel_at 7 rfl⟩
   refine NX.held s83 ?_
   refine DP (i := 12) t54_6 (bt 17 8191) rfl rfl rfl rfl (fun w => run_build (v := Value.agg #[Value.slice a77 (0 + u.lb.l.length) c78, Value.int .i64 u.last, Value.slice a81 (0 + u.pt.l.length) c82]) rfl (fun w => by kernel_rfl)) ?_
   refine WD.one (i := 13) t54_6 (bt 17 16383) rfl (by kernel_rfl) ?_
   refine WO.buildSlice (l := [Value.slice a77 (0 + u.lb.l.length) c78, Value.int .i64 u.last, Value.slice a81 (0 + u.pt.l.length) c82]) hS80 Tryz.underlying44 rfl (fun w => by kernel_rfl) rfl (fun g85 w84 lg85 hS84 => ?_)
   clear hS80
   refine WO.nil ?_
   have s86 : (∀ jz, World.cell? w84 ⟨g12, jz, none⟩ = (mrc u)[jz]?) ∧ (∀ jz, World.cell? w84 ⟨g6, jz, none⟩ = [Value.int .i64 b1.first, Value.int .i64 b1.to, Value.slice oa Rs.length oc, Value.slice none 0 0][jz]?) := ⟨hS84.cel_at 3 rfl, hS84.cel_at 8 rfl⟩
   refine NX.held s86 ?_
   refine WD.one (i := 14) t54_6 (bt 17 32767) rfl (by kernel_rfl) ?_
   refine WO.append (news := [Value.slice a77 (0 + u.lb.l.length) c78, Value.int .i64 u.last, Value.slice a81 (0 + u.pt.l.length) c82]) 6 rfl Tryz.underlying44 Tryz.underlying44 (fun _ h => by cases h) Ty.sz93 (by decide) Ty.by93 Ty.zr93 rfl rfl rfl rfl hS84 rfl ((hS84.cel_rd 0 rfl (o := 0) (m := 1) (k := 3) rfl (Nat.le_of_ble_eq_true rfl)).src) rfl (by omega) (by omega) (fun a88 c89 w87 hS87 => ?_)
   replace hS87 : St B (cel g85 [Value.slice a77 (0 + u.lb.l.length) c78, Value.int .i64 u.last, Value.slice a81 (0 + u.pt.l.length) c82] 93 :: own a77 (0 + u.lb.l.length) c78 105 2 ([] ++ (u.lb.l.flatMap prc)) :: own a81 (0 + u.pt.l.length) c82 103 2 ([] ++ (u.pt.l.flatMap ptc)) :: cel g12 (mrc u) 99 :: (labA u.lb) :: (ptsA u.pt) :: own a88 (Rs.length + 1) c89 93 3 ((Rs.flatMap mrc) ++ [Value.slice a77 (0 + u.lb.l.length) c78, Value.int .i64 u.last, Value.slice a81 (0 + u.pt.l.length) c82]) :: allA mrA Rs :: cel g6 [Value.int .i64 b1.first, Value.int .i64 b1.to, Value.slice oa Rs.length oc, Value.slice none 0 0] 46 :: allA mrA b1.rs.l :: cel g2 (blc b1) 51 :: (rsA b1.rs) :: cel g4 [Value.int .i64 0, Value.int .i64 0, Value.slice none 0 0, Value.slice none 0 0] 46 :: (dsA b1.ds) :: allA recA b1.ds.l :: blA b1 :: L) w87 := hS87
   clear hS84
   refine WO.nil ?_
   have s90 : (∀ jz, World.cell? w87 ⟨g12, jz, none⟩ = (mrc u)[jz]?) ∧ (∀ jz, World.cell? w87 ⟨g6, jz, none⟩ = [Value.int .i64 b1.first, Value.int .i64 b1.to, Value.slice oa Rs.length oc, Value.slice none 0 0][jz]?) := ⟨hS87.cel_at 3 rfl, hS87.cel_at 8 rfl⟩
   refine NX.held s90 ?_
   refine DP (i := 15) t54_6 (bt 17 65535) rfl rfl rfl rfl (fun w => run_fa 2 ⟨g6, 2, none⟩ rfl rfl) ?_
   refine WD.one (i := 16) t54_6 (bt 17 131071) rfl (by kernel_rfl) ?_
   refine WO.store (l' := [Value.int .i64 b1.first, Value.int .i64 b1.to, Value.slice a88 (Rs.length + 1) c89, Value.slice none 0 0]) 8 hS87 rfl Ty.sz44 rfl rfl rfl rfl rfl (Nat.le_of_ble_eq_true rfl) rfl (fun w91 (hS91 : St B (cel g85 [Value.slice a77 (0 + u.lb.l.length) c78, Value.int .i64 u.last, Value.slice a81 (0 + u.pt.l.length) c82] 93 :: own a77 (0 + u.lb.l.length) c78 105 2 ([] ++ (u.lb.l.flatMap prc)) :: own a81 (0 + u.pt.l.length) c82 103 2 ([] ++ (u.pt.l.flatMap ptc)) :: cel g12 (mrc u) 99 :: (labA u.lb) :: (ptsA u.pt) :: own a88 (Rs.length + 1) c89 93 3 ((Rs.flatMap mrc) ++ [Value.slice a77 (0 + u.lb.l.length) c78, Value.int .i64 u.last, Value.slice a81 (0 + u.pt.l.length) c82]) :: allA mrA Rs :: cel g6 [Value.int .i64 b1.first, Value.int .i64 b1.to, Value.slice a88 (Rs.length + 1) c89, Value.slice none 0 0] 46 :: allA mrA b1.rs.l :: cel g2 (blc b1) 51 :: (rsA b1.rs) :: cel g4 [Value.int .i64 0, Value.int .i64 0, Value.slice none 0 0, Value.slice none 0 0] 46 :: (dsA b1.ds) :: allA recA b1.ds.l :: blA b1 :: L) w91) => ?_)
   clear hS87
   refine WO.nil ?_
   refine NX.last (by decide) ?_
   refine WD.done t54_6 (by kernel_rfl) ?_
   refine NX.blk (NX.go (WP.region rfl ?_))
   refine WO.mv rfl rfl ?_
   refine WO.V (run_add rfl rfl (IntWalk.i64_in _ (by omega))) ?_
   refine WO.asg rfl rfl ?_
   refine WO.nil ?_
   have hS92 : St B (own a77 (0 + u.lb.l.length) c78 105 2 ([] ++ (u.lb.l.flatMap prc)) :: own a81 (0 + u.pt.l.length) c82 103 2 ([] ++ (u.pt.l.flatMap ptc)) :: own a88 (Rs.length + 1) c89 93 3 ((Rs.flatMap mrc) ++ [Value.slice a77 (0 + u.lb.l.length) c78, Value.int .i64 u.last, Value.slice a81 (0 + u.pt.l.length) c82]) :: allA mrA Rs :: cel g6 [Value.int .i64 b1.first, Value.int .i64 b1.to, Value.slice a88 (Rs.length + 1) c89, Value.slice none 0 0] 46 :: allA mrA b1.rs.l :: cel g2 (blc b1) 51 :: (rsA b1.rs) :: cel g4 [Value.int .i64 0, Value.int .i64 0, Value.slice none 0 0, Value.slice none 0 0] 46 :: (dsA b1.ds) :: allA recA b1.ds.l :: blA b1 :: L) w91 := (hS91.mask [false, true, true, false, false, false] (L' := own a77 (0 + u.lb.l.length) c78 105 2 ([] ++ (u.lb.l.flatMap prc)) :: own a81 (0 + u.pt.l.length) c82 103 2 ([] ++ (u.pt.l.flatMap ptc)) :: own a88 (Rs.length + 1) c89 93 3 ((Rs.flatMap mrc) ++ [Value.slice a77 (0 + u.lb.l.length) c78, Value.int .i64 u.last, Value.slice a81 (0 + u.pt.l.length) c82]) :: allA mrA Rs :: cel g6 [Value.int .i64 b1.first, Value.int .i64 b1.to, Value.slice a88 (Rs.length + 1) c89, Value.slice none 0 0] 46 :: allA mrA b1.rs.l :: cel g2 (blc b1) 51 :: (rsA b1.rs) :: cel g4 [Value.int .i64 0, Value.int .i64 0, Value.slice none 0 0, Value.slice none 0 0] 46 :: (dsA b1.ds) :: allA recA b1.ds.l :: blA b1 :: L) rfl)
   clear hS91
   have hS93 : St B (labA ((⟨⟨a77, u.lb.l, c78⟩, u.last, ⟨a81, u.pt.l, c82⟩⟩ : MRow)).lb :: own a81 (0 + u.pt.l.length) c82 103 2 ([] ++ (u.pt.l.flatMap ptc)) :: own a88 (Rs.length + 1) c89 93 3 ((Rs.flatMap mrc) ++ [Value.slice a77 (0 + u.lb.l.length) c78, Value.int .i64 u.last, Value.slice a81 (0 + u.pt.l.length) c82]) :: allA mrA Rs :: cel g6 [Value.int .i64 b1.first, Value.int .i64 b1.to, Value.slice a88 (Rs.length + 1) c89, Value.slice none 0 0] 46 :: allA mrA b1.rs.l :: cel g2 (blc b1) 51 :: (rsA b1.rs) :: cel g4 [Value.int .i64 0, Value.int .i64 0, Value.slice none 0 0, Value.slice none 0 0] 46 :: (dsA b1.ds) :: allA recA b1.ds.l :: blA b1 :: L) w91 := rdH_own (own_eqM hS92 (by simp) (by simp))
   clear hS92
   have hS94 : St B (ptsA ((⟨⟨a77, u.lb.l, c78⟩, u.last, ⟨a81, u.pt.l, c82⟩⟩ : MRow)).pt :: labA ((⟨⟨a77, u.lb.l, c78⟩, u.last, ⟨a81, u.pt.l, c82⟩⟩ : MRow)).lb :: own a88 (Rs.length + 1) c89 93 3 ((Rs.flatMap mrc) ++ [Value.slice a77 (0 + u.lb.l.length) c78, Value.int .i64 u.last, Value.slice a81 (0 + u.pt.l.length) c82]) :: allA mrA Rs :: cel g6 [Value.int .i64 b1.first, Value.int .i64 b1.to, Value.slice a88 (Rs.length + 1) c89, Value.slice none 0 0] 46 :: allA mrA b1.rs.l :: cel g2 (blc b1) 51 :: (rsA b1.rs) :: cel g4 [Value.int .i64 0, Value.int .i64 0, Value.slice none 0 0, Value.slice none 0 0] 46 :: (dsA b1.ds) :: allA recA b1.ds.l :: blA b1 :: L) w91 := rdH_own (own_eqM (hS93.permT [1] (L' := own a81 (0 + u.pt.l.length) c82 103 2 ([] ++ (u.pt.l.flatMap ptc)) :: labA ((⟨⟨a77, u.lb.l, c78⟩, u.last, ⟨a81, u.pt.l, c82⟩⟩ : MRow)).lb :: own a88 (Rs.length + 1) c89 93 3 ((Rs.flatMap mrc) ++ [Value.slice a77 (0 + u.lb.l.length) c78, Value.int .i64 u.last, Value.slice a81 (0 + u.pt.l.length) c82]) :: allA mrA Rs :: cel g6 [Value.int .i64 b1.first, Value.int .i64 b1.to, Value.slice a88 (Rs.length + 1) c89, Value.slice none 0 0] 46 :: allA mrA b1.rs.l :: cel g2 (blc b1) 51 :: (rsA b1.rs) :: cel g4 [Value.int .i64 0, Value.int .i64 0, Value.slice none 0 0, Value.slice none 0 0] 46 :: (dsA b1.ds) :: allA recA b1.ds.l :: blA b1 :: L) rfl) (by simp) (by simp))
   clear hS93
   have hS95 : St B (mrA (⟨⟨a77, u.lb.l, c78⟩, u.last, ⟨a81, u.pt.l, c82⟩⟩ : MRow) :: own a88 (Rs.length + 1) c89 93 3 ((Rs.flatMap mrc) ++ [Value.slice a77 (0 + u.lb.l.length) c78, Value.int .i64 u.last, Value.slice a81 (0 + u.pt.l.length) c82]) :: allA mrA Rs :: cel g6 [Value.int .i64 b1.first, Value.int .i64 b1.to, Value.slice a88 (Rs.length + 1) c89, Value.slice none 0 0] 46 :: allA mrA b1.rs.l :: cel g2 (blc b1) 51 :: (rsA b1.rs) :: cel g4 [Value.int .i64 0, Value.int .i64 0, Value.slice none 0 0, Value.slice none 0 0] 46 :: (dsA b1.ds) :: allA recA b1.ds.l :: blA b1 :: L) w91 := ((hS94.permT [1] (L' := labA ((⟨⟨a77, u.lb.l, c78⟩, u.last, ⟨a81, u.pt.l, c82⟩⟩ : MRow)).lb :: ptsA ((⟨⟨a77, u.lb.l, c78⟩, u.last, ⟨a81, u.pt.l, c82⟩⟩ : MRow)).pt :: own a88 (Rs.length + 1) c89 93 3 ((Rs.flatMap mrc) ++ [Value.slice a77 (0 + u.lb.l.length) c78, Value.int .i64 u.last, Value.slice a81 (0 + u.pt.l.length) c82]) :: allA mrA Rs :: cel g6 [Value.int .i64 b1.first, Value.int .i64 b1.to, Value.slice a88 (Rs.length + 1) c89, Value.slice none 0 0] 46 :: allA mrA b1.rs.l :: cel g2 (blc b1) 51 :: (rsA b1.rs) :: cel g4 [Value.int .i64 0, Value.int .i64 0, Value.slice none 0 0, Value.slice none 0 0] 46 :: (dsA b1.ds) :: allA recA b1.ds.l :: blA b1 :: L) rfl)).join
   clear hS94
   have hS96 := allA_snoc (hS95.permT [2] (L' := allA mrA Rs :: mrA (⟨⟨a77, u.lb.l, c78⟩, u.last, ⟨a81, u.pt.l, c82⟩⟩ : MRow) :: own a88 (Rs.length + 1) c89 93 3 ((Rs.flatMap mrc) ++ [Value.slice a77 (0 + u.lb.l.length) c78, Value.int .i64 u.last, Value.slice a81 (0 + u.pt.l.length) c82]) :: cel g6 [Value.int .i64 b1.first, Value.int .i64 b1.to, Value.slice a88 (Rs.length + 1) c89, Value.slice none 0 0] 46 :: allA mrA b1.rs.l :: cel g2 (blc b1) 51 :: (rsA b1.rs) :: cel g4 [Value.int .i64 0, Value.int .i64 0, Value.slice none 0 0, Value.slice none 0 0] 46 :: (dsA b1.ds) :: allA recA b1.ds.l :: blA b1 :: L) rfl)
   clear hS95
   have hlen9 : (Rs.length + 1) = (Rs ++ [(⟨⟨a77, u.lb.l, c78⟩, u.last, ⟨a81, u.pt.l, c82⟩⟩ : MRow)]).length := by simp
   have hS97 : St B (cel g6 [Value.int .i64 b1.first, Value.int .i64 b1.to, Value.slice a88 ((Rs ++ [(⟨⟨a77, u.lb.l, c78⟩, u.last, ⟨a81, u.pt.l, c82⟩⟩ : MRow)]).length) c89, Value.slice none 0 0] 46 :: own a88 ((Rs ++ [(⟨⟨a77, u.lb.l, c78⟩, u.last, ⟨a81, u.pt.l, c82⟩⟩ : MRow)]).length) c89 93 3 ((Rs ++ [(⟨⟨a77, u.lb.l, c78⟩, u.last, ⟨a81, u.pt.l, c82⟩⟩ : MRow)]).flatMap mrc) :: allA mrA (Rs ++ [(⟨⟨a77, u.lb.l, c78⟩, u.last, ⟨a81, u.pt.l, c82⟩⟩ : MRow)]) :: allA mrA b1.rs.l :: cel g2 (blc b1) 51 :: (rsA b1.rs) :: cel g4 [Value.int .i64 0, Value.int .i64 0, Value.slice none 0 0, Value.slice none 0 0] 46 :: (dsA b1.ds) :: allA recA b1.ds.l :: blA b1 :: L) w91 := by have z := (hS96.permT [2, 1] (L' := cel g6 [Value.int .i64 b1.first, Value.int .i64 b1.to, Value.slice a88 (Rs.length + 1) c89, Value.slice none 0 0] 46 :: own a88 (Rs.length + 1) c89 93 3 ((Rs.flatMap mrc) ++ [Value.slice a77 (0 + u.lb.l.length) c78, Value.int .i64 u.last, Value.slice a81 (0 + u.pt.l.length) c82]) :: allA mrA (Rs ++ [(⟨⟨a77, u.lb.l, c78⟩, u.last, ⟨a81, u.pt.l, c82⟩⟩ : MRow)]) :: allA mrA b1.rs.l :: cel g2 (blc b1) 51 :: (rsA b1.rs) :: cel g4 [Value.int .i64 0, Value.int .i64 0, Value.slice none 0 0, Value.slice none 0 0] 46 :: (dsA b1.ds) :: allA recA b1.ds.l :: blA b1 :: L) rfl); rw [hlen9] at z; have z2 := own_eqM (z.permT [1, 0] (L' := own a88 ((Rs ++ [(⟨⟨a77, u.lb.l, c78⟩, u.last, ⟨a81, u.pt.l, c82⟩⟩ : MRow)]).length) c89 93 3 ((Rs.flatMap mrc) ++ [Value.slice a77 (0 + u.lb.l.length) c78, Value.int .i64 u.last, Value.slice a81 (0 + u.pt.l.length) c82]) :: cel g6 [Value.int .i64 b1.first, Value.int .i64 b1.to, Value.slice a88 ((Rs ++ [(⟨⟨a77, u.lb.l, c78⟩, u.last, ⟨a81, u.pt.l, c82⟩⟩ : MRow)]).length) c89, Value.slice none 0 0] 46 :: allA mrA (Rs ++ [(⟨⟨a77, u.lb.l, c78⟩, u.last, ⟨a81, u.pt.l, c82⟩⟩ : MRow)]) :: allA mrA b1.rs.l :: cel g2 (blc b1) 51 :: (rsA b1.rs) :: cel g4 [Value.int .i64 0, Value.int .i64 0, Value.slice none 0 0, Value.slice none 0 0] 46 :: (dsA b1.ds) :: allA recA b1.ds.l :: blA b1 :: L) rfl) rfl (show _ = ((Rs ++ [(⟨⟨a77, u.lb.l, c78⟩, u.last, ⟨a81, u.pt.l, c82⟩⟩ : MRow)]).flatMap mrc) by simp [mrc]); exact z2.permT [1, 0] rfl
   clear hS96
   exact NX.again (i + 1, Rs ++ [(⟨⟨a77, u.lb.l, c78⟩, u.last, ⟨a81, u.pt.l, c82⟩⟩ : MRow)], a88, c89) ⟨⟨by omega, by rw [take_snocM hu, List.map_append, List.map_append, hRs]; rfl, by rw [List.length_append, hRn]; rfl⟩, (hS97.permT [1, 1, 0, 1, 1] (L' := own a88 ((Rs ++ [(⟨⟨a77, u.lb.l, c78⟩, u.last, ⟨a81, u.pt.l, c82⟩⟩ : MRow)]).length) c89 93 3 ((Rs ++ [(⟨⟨a77, u.lb.l, c78⟩, u.last, ⟨a81, u.pt.l, c82⟩⟩ : MRow)]).flatMap mrc) :: allA mrA (Rs ++ [(⟨⟨a77, u.lb.l, c78⟩, u.last, ⟨a81, u.pt.l, c82⟩⟩ : MRow)]) :: cel g6 [Value.int .i64 b1.first, Value.int .i64 b1.to, Value.slice a88 ((Rs ++ [(⟨⟨a77, u.lb.l, c78⟩, u.last, ⟨a81, u.pt.l, c82⟩⟩ : MRow)]).length) c89, Value.slice none 0 0] 46 :: cel g2 (blc b1) 51 :: (rsA b1.rs) :: allA mrA b1.rs.l :: cel g4 [Value.int .i64 0, Value.int .i64 0, Value.slice none 0 0, Value.slice none 0 0] 46 :: (dsA b1.ds) :: allA recA b1.ds.l :: blA b1 :: L) rfl)⟩ (by show b1.rs.l.length - (i + 1) < b1.rs.l.length - i; omega) (Sub.cons rfl (Sub.cons rfl (Sub.cons rfl (Sub.consE rfl (by congr 1) (Sub.nil _)))))
 ·
  refine WP.exit (NX.thenExit (NX.thenExit ?_))
  refine NX.blkExit ?_
  refine NX.go (WP.seq (WP.seq (WP.region rfl ?_)))
  refine WO.asg rfl rfl ?_
  refine WO.nil (NX.go (WP.block ?_))
  have hS98 : St B (cel g6 [Value.int .i64 b1.first, Value.int .i64 b1.to, Value.slice oa Rs.length oc, Value.slice none 0 0] 46 :: cel g2 (blc b1) 51 :: (dsA b1.ds) :: allA recA b1.ds.l :: own oa Rs.length oc 93 3 (Rs.flatMap mrc) :: allA mrA Rs :: (rsA b1.rs) :: allA mrA b1.rs.l :: cel g4 [Value.int .i64 0, Value.int .i64 0, Value.slice none 0 0, Value.slice none 0 0] 46 :: blA b1 :: L) w9 := (hS9.permT [2, 2, 5, 5] (L' := cel g6 [Value.int .i64 b1.first, Value.int .i64 b1.to, Value.slice oa Rs.length oc, Value.slice none 0 0] 46 :: cel g2 (blc b1) 51 :: (dsA b1.ds) :: allA recA b1.ds.l :: own oa Rs.length oc 93 3 (Rs.flatMap mrc) :: allA mrA Rs :: (rsA b1.rs) :: allA mrA b1.rs.l :: cel g4 [Value.int .i64 0, Value.int .i64 0, Value.slice none 0 0, Value.slice none 0 0] 46 :: blA b1 :: L) rfl)
  clear hS9
  replace hS98 := (St.addPure trivial hS98 : St B (allA recA [] :: cel g6 [Value.int .i64 b1.first, Value.int .i64 b1.to, Value.slice oa Rs.length oc, Value.slice none 0 0] 46 :: cel g2 (blc b1) 51 :: (dsA b1.ds) :: allA recA b1.ds.l :: own oa Rs.length oc 93 3 (Rs.flatMap mrc) :: allA mrA Rs :: (rsA b1.rs) :: allA mrA b1.rs.l :: cel g4 [Value.int .i64 0, Value.int .i64 0, Value.slice none 0 0, Value.slice none 0 0] 46 :: blA b1 :: L) w9)
  replace hS98 := hS98.own_nil 33 5
  refine WP.loop (α := Nat × List Rcd × Option Addr × Nat) (fun x => match x with | ⟨j, Ds, da, dc⟩ => [(1, Value.pointer (some ⟨g2, 0, none⟩)), (2, Value.pointer (some ⟨g4, 0, none⟩)), (3, Value.pointer (some ⟨g6, 0, none⟩)), (6, Value.int .i64 (j : Int))]) (fun x w => match x with | ⟨j, Ds, da, dc⟩ => (j ≤ b1.ds.l.length ∧ Ds.map Rcd.p = (b1.ds.l.take j).map Rcd.p ∧ Ds.length = j) ∧ St B (own da Ds.length dc 33 5 (Ds.flatMap rcc) :: allA recA Ds :: cel g6 [Value.int .i64 b1.first, Value.int .i64 b1.to, Value.slice oa Rs.length oc, Value.slice da Ds.length dc] 46 :: cel g2 (blc b1) 51 :: (dsA b1.ds) :: allA recA b1.ds.l :: own oa Rs.length oc 93 3 (Rs.flatMap mrc) :: allA mrA Rs :: (rsA b1.rs) :: allA mrA b1.rs.l :: cel g4 [Value.int .i64 0, Value.int .i64 0, Value.slice none 0 0, Value.slice none 0 0] 46 :: blA b1 :: L) w) (fun x => match x with | ⟨j, Ds, da, dc⟩ => b1.ds.l.length - j) (0, [], none, 0) ⟨⟨Nat.zero_le _, rfl, rfl⟩, hS98⟩ (Sub.cons rfl (Sub.cons rfl (Sub.cons rfl (Sub.consE rfl (by first | rfl | first | rfl | (congr 1; omega) | (simp; done) | (simp; omega)) (Sub.nil _))))) ?_
  rintro ⟨j, Ds, da, dc⟩ w99 ⟨⟨hj, hDs, hDn⟩, hS99⟩
  clear hS98
  refine WP.seq (WP.seq (WP.region rfl ?_))
  refine WO.mv rfl rfl ?_
  refine WO.V (run_fa 3 ⟨g2, 3, none⟩ rfl rfl) ?_
  refine WO.V (run_load Ty.ag23 rfl ((hS99.cel_at 3 rfl 3).trans rfl)) ?_
  refine WO.V (run_len rfl Tryz.underlying23 rfl) ?_
  refine WO.V (run_lss rfl rfl) ?_
  refine WO.nil (NX.go ?_)
  refine WP.condP rfl (fun g44 => ?_) (fun g44 => ?_)
  ·
   refine WP.skip (NX.go (WP.seq (WP.block ?_)))
   obtain ⟨d1, hd1⟩ : ∃ qq, b1.ds.l[j]? = some qq := ⟨_, List.getElem?_eq_getElem (by omega)⟩
   refine WD.start (fun w => (∀ jz, World.cell? w ⟨g6, jz, none⟩ = [Value.int .i64 b1.first, Value.int .i64 b1.to, Value.slice oa Rs.length oc, Value.slice da Ds.length dc][jz]?) ∧ (∀ jz, World.cell? w ⟨g2, jz, none⟩ = (blc b1)[jz]?) ∧ Rd w b1.ds.a b1.ds.l.length 5 (b1.ds.l.flatMap rcc)) [11] (bt 12 0) Ty.mo rfl (by kernel_rfl) hS99 (fun _ h => ⟨h.cel_at 2 rfl, h.cel_at 3 rfl, (rdH_rd (h.focus 4 rfl))⟩) (fun w100 hS100 s101 => ?_)
   clear hS99
   refine DP (i := 0) t54_10 (bt 12 1) rfl rfl rfl rfl (fun w => run_fa 3 ⟨g6, 3, none⟩ rfl rfl) ?_
   refine DT (i := 1) t54_10 (bt 12 3) s101 rfl rfl rfl rfl (fun w hs => run_load Ty.ag23 rfl ((hs.1 3).trans rfl)) ?_
   refine DP (i := 2) t54_10 (bt 12 7) rfl rfl rfl rfl (fun w => run_fa 3 ⟨g2, 3, none⟩ rfl rfl) ?_
   refine DT (i := 3) t54_10 (bt 12 15) s101 rfl rfl rfl rfl (fun w hs => run_load Ty.ag23 rfl ((hs.2.1 3).trans rfl)) ?_
   refine DP (i := 4) t54_10 (bt 12 31) rfl rfl rfl rfl (fun w => run_move rfl) ?_
   refine DT (i := 5) t54_10 (bt 12 63) s101 rfl rfl rfl rfl (fun w hs => run_indexAddr (q := adr b1.ds.a (j * 5)) Tryz.underlying23 Ty.sz33 rfl rfl (by omega) (by omega) ((hs.2.2).2.1 (by omega)) rfl) ?_
   refine DT (i := 6) t54_10 (bt 12 127) s101 rfl rfl rfl rfl (fun w hs => run_loadAgg (vs := (rcc d1)) Ty.ag33 Ty.sz33 rfl ((hs.2.2).cells (by rw [flat_len rcc_len]; omega) (flat_part rcc_len hd1)).1 ((hs.2.2).cells (by rw [flat_len rcc_len]; omega) (flat_part rcc_len hd1)).2) ?_
   refine WD.one (i := 7) t54_10 (bt 12 255) rfl (by kernel_rfl) ?_
   have hS102 := allA_get recA_pers (List.mem_of_getElem? hd1) (hS100.permT [5] (L' := allA recA b1.ds.l :: own da Ds.length dc 33 5 (Ds.flatMap rcc) :: allA recA Ds :: cel g6 [Value.int .i64 b1.first, Value.int .i64 b1.to, Value.slice oa Rs.length oc, Value.slice da Ds.length dc] 46 :: cel g2 (blc b1) 51 :: (dsA b1.ds) :: own oa Rs.length oc 93 3 (Rs.flatMap mrc) :: allA mrA Rs :: (rsA b1.rs) :: allA mrA b1.rs.l :: cel g4 [Value.int .i64 0, Value.int .i64 0, Value.slice none 0 0, Value.slice none 0 0] 46 :: blA b1 :: L) rfl)
   clear hS100
   refine WO.call rfl rfl Ty.hd16 rfl (own12_spec d1 (hz.d d1 (List.mem_of_getElem? hd1)) hS102) (fun v104 w103 pv104 => ?_)
   obtain ⟨r1, rfl, hr1, hS103⟩ := pv104
   clear hS102
   refine WO.nil ?_
   have s105 : (∀ jz, World.cell? w103 ⟨g6, jz, none⟩ = [Value.int .i64 b1.first, Value.int .i64 b1.to, Value.slice oa Rs.length oc, Value.slice da Ds.length dc][jz]?) ∧ (∀ jz, World.cell? w103 ⟨g2, jz, none⟩ = (blc b1)[jz]?) ∧ Rd w103 b1.ds.a b1.ds.l.length 5 (b1.ds.l.flatMap rcc) := ⟨hS103.cel_at 5 rfl, hS103.cel_at 6 rfl, (rdH_rd (hS103.focus 7 rfl))⟩
   refine NX.held s105 ?_
   refine WD.one (i := 8) t54_10 (bt 12 511) rfl (by kernel_rfl) ?_
   refine WO.buildSlice (l := (rcc r1)) hS103 Tryz.underlying23 rfl (fun w => by kernel_rfl) rfl (fun g107 w106 lg107 hS106 => ?_)
   clear hS103
   refine WO.nil ?_
   have s108 : (∀ jz, World.cell? w106 ⟨g6, jz, none⟩ = [Value.int .i64 b1.first, Value.int .i64 b1.to, Value.slice oa Rs.length oc, Value.slice da Ds.length dc][jz]?) ∧ (∀ jz, World.cell? w106 ⟨g2, jz, none⟩ = (blc b1)[jz]?) ∧ Rd w106 b1.ds.a b1.ds.l.length 5 (b1.ds.l.flatMap rcc) := ⟨hS106.cel_at 6 rfl, hS106.cel_at 7 rfl, (rdH_rd (hS106.focus 8 rfl))⟩
   refine NX.held s108 ?_
   refine WD.one (i := 9) t54_10 (bt 12 1023) rfl (by kernel_rfl) ?_
   refine WO.append (news := (rcc r1)) 4 rfl Tryz.underlying23 Tryz.underlying23 (fun _ h => by cases h) Ty.sz33 (by decide) Ty.by33 Ty.zr33 rfl rfl rfl rfl hS106 rfl ((hS106.cel_rd 0 rfl (o := 0) (m := 1) (k := 5) rfl (Nat.le_of_ble_eq_true rfl)).src) rfl (by omega) (by omega) (fun a110 c111 w109 hS109 => ?_)
   replace hS109 : St B (cel g107 (rcc r1) 33 :: recA r1 :: recA d1 :: allA recA b1.ds.l :: own a110 (Ds.length + 1) c111 33 5 ((Ds.flatMap rcc) ++ (rcc r1)) :: allA recA Ds :: cel g6 [Value.int .i64 b1.first, Value.int .i64 b1.to, Value.slice oa Rs.length oc, Value.slice da Ds.length dc] 46 :: cel g2 (blc b1) 51 :: (dsA b1.ds) :: own oa Rs.length oc 93 3 (Rs.flatMap mrc) :: allA mrA Rs :: (rsA b1.rs) :: allA mrA b1.rs.l :: cel g4 [Value.int .i64 0, Value.int .i64 0, Value.slice none 0 0, Value.slice none 0 0] 46 :: blA b1 :: L) w109 := hS109
   clear hS106
   refine WO.nil ?_
   have s112 : (∀ jz, World.cell? w109 ⟨g6, jz, none⟩ = [Value.int .i64 b1.first, Value.int .i64 b1.to, Value.slice oa Rs.length oc, Value.slice da Ds.length dc][jz]?) ∧ (∀ jz, World.cell? w109 ⟨g2, jz, none⟩ = (blc b1)[jz]?) ∧ Rd w109 b1.ds.a b1.ds.l.length 5 (b1.ds.l.flatMap rcc) := ⟨hS109.cel_at 6 rfl, hS109.cel_at 7 rfl, (rdH_rd (hS109.focus 8 rfl))⟩
   refine NX.held s112 ?_
   refine DP (i := 10) t54_10 (bt 12 2047) rfl rfl rfl rfl (fun w => run_fa 3 ⟨g6, 3, none⟩ rfl rfl) ?_
   refine WD.one (i := 11) t54_10 (bt 12 4095) rfl (by kernel_rfl) ?_
   refine WO.store (l' := [Value.int .i64 b1.first, Value.int .i64 b1.to, Value.slice oa Rs.length oc, Value.slice a110 (Ds.length + 1) c111]) 6 hS109 rfl Ty.sz23 rfl rfl rfl rfl rfl (Nat.le_of_ble_eq_true rfl) rfl (fun w113 (hS113 : St B (cel g107 (rcc r1) 33 :: recA r1 :: recA d1 :: allA recA b1.ds.l :: own a110 (Ds.length + 1) c111 33 5 ((Ds.flatMap rcc) ++ (rcc r1)) :: allA recA Ds :: cel g6 [Value.int .i64 b1.first, Value.int .i64 b1.to, Value.slice oa Rs.length oc, Value.slice a110 (Ds.length + 1) c111] 46 :: cel g2 (blc b1) 51 :: (dsA b1.ds) :: own oa Rs.length oc 93 3 (Rs.flatMap mrc) :: allA mrA Rs :: (rsA b1.rs) :: allA mrA b1.rs.l :: cel g4 [Value.int .i64 0, Value.int .i64 0, Value.slice none 0 0, Value.slice none 0 0] 46 :: blA b1 :: L) w113) => ?_)
   clear hS109
   refine WO.nil ?_
   refine NX.last (by decide) ?_
   refine WD.done t54_10 (by kernel_rfl) ?_
   refine NX.blk (NX.go (WP.region rfl ?_))
   refine WO.mv rfl rfl ?_
   refine WO.V (run_add rfl rfl (IntWalk.i64_in _ (by omega))) ?_
   refine WO.asg rfl rfl ?_
   refine WO.nil ?_
   have hS114 : St B (recA r1 :: allA recA b1.ds.l :: own a110 (Ds.length + 1) c111 33 5 ((Ds.flatMap rcc) ++ (rcc r1)) :: allA recA Ds :: cel g6 [Value.int .i64 b1.first, Value.int .i64 b1.to, Value.slice oa Rs.length oc, Value.slice a110 (Ds.length + 1) c111] 46 :: cel g2 (blc b1) 51 :: (dsA b1.ds) :: own oa Rs.length oc 93 3 (Rs.flatMap mrc) :: allA mrA Rs :: (rsA b1.rs) :: allA mrA b1.rs.l :: cel g4 [Value.int .i64 0, Value.int .i64 0, Value.slice none 0 0, Value.slice none 0 0] 46 :: blA b1 :: L) w113 := (hS113.mask [false, true, false] (L' := recA r1 :: allA recA b1.ds.l :: own a110 (Ds.length + 1) c111 33 5 ((Ds.flatMap rcc) ++ (rcc r1)) :: allA recA Ds :: cel g6 [Value.int .i64 b1.first, Value.int .i64 b1.to, Value.slice oa Rs.length oc, Value.slice a110 (Ds.length + 1) c111] 46 :: cel g2 (blc b1) 51 :: (dsA b1.ds) :: own oa Rs.length oc 93 3 (Rs.flatMap mrc) :: allA mrA Rs :: (rsA b1.rs) :: allA mrA b1.rs.l :: cel g4 [Value.int .i64 0, Value.int .i64 0, Value.slice none 0 0, Value.slice none 0 0] 46 :: blA b1 :: L) rfl)
   clear hS113
   have hS115 := allA_snoc (hS114.permT [3] (L' := allA recA Ds :: recA r1 :: allA recA b1.ds.l :: own a110 (Ds.length + 1) c111 33 5 ((Ds.flatMap rcc) ++ (rcc r1)) :: cel g6 [Value.int .i64 b1.first, Value.int .i64 b1.to, Value.slice oa Rs.length oc, Value.slice a110 (Ds.length + 1) c111] 46 :: cel g2 (blc b1) 51 :: (dsA b1.ds) :: own oa Rs.length oc 93 3 (Rs.flatMap mrc) :: allA mrA Rs :: (rsA b1.rs) :: allA mrA b1.rs.l :: cel g4 [Value.int .i64 0, Value.int .i64 0, Value.slice none 0 0, Value.slice none 0 0] 46 :: blA b1 :: L) rfl)
   clear hS114
   have hlen9 : (Ds.length + 1) = (Ds ++ [r1]).length := by simp
   have hS116 : St B (cel g6 [Value.int .i64 b1.first, Value.int .i64 b1.to, Value.slice oa Rs.length oc, Value.slice a110 ((Ds ++ [r1]).length) c111] 46 :: own a110 ((Ds ++ [r1]).length) c111 33 5 ((Ds ++ [r1]).flatMap rcc) :: allA recA (Ds ++ [r1]) :: allA recA b1.ds.l :: cel g2 (blc b1) 51 :: (dsA b1.ds) :: own oa Rs.length oc 93 3 (Rs.flatMap mrc) :: allA mrA Rs :: (rsA b1.rs) :: allA mrA b1.rs.l :: cel g4 [Value.int .i64 0, Value.int .i64 0, Value.slice none 0 0, Value.slice none 0 0] 46 :: blA b1 :: L) w113 := by have z := (hS115.permT [3, 2] (L' := cel g6 [Value.int .i64 b1.first, Value.int .i64 b1.to, Value.slice oa Rs.length oc, Value.slice a110 (Ds.length + 1) c111] 46 :: own a110 (Ds.length + 1) c111 33 5 ((Ds.flatMap rcc) ++ (rcc r1)) :: allA recA (Ds ++ [r1]) :: allA recA b1.ds.l :: cel g2 (blc b1) 51 :: (dsA b1.ds) :: own oa Rs.length oc 93 3 (Rs.flatMap mrc) :: allA mrA Rs :: (rsA b1.rs) :: allA mrA b1.rs.l :: cel g4 [Value.int .i64 0, Value.int .i64 0, Value.slice none 0 0, Value.slice none 0 0] 46 :: blA b1 :: L) rfl); rw [hlen9] at z; have z2 := own_eqM (z.permT [1, 0] (L' := own a110 ((Ds ++ [r1]).length) c111 33 5 ((Ds.flatMap rcc) ++ (rcc r1)) :: cel g6 [Value.int .i64 b1.first, Value.int .i64 b1.to, Value.slice oa Rs.length oc, Value.slice a110 ((Ds ++ [r1]).length) c111] 46 :: allA recA (Ds ++ [r1]) :: allA recA b1.ds.l :: cel g2 (blc b1) 51 :: (dsA b1.ds) :: own oa Rs.length oc 93 3 (Rs.flatMap mrc) :: allA mrA Rs :: (rsA b1.rs) :: allA mrA b1.rs.l :: cel g4 [Value.int .i64 0, Value.int .i64 0, Value.slice none 0 0, Value.slice none 0 0] 46 :: blA b1 :: L) rfl) rfl (show _ = ((Ds ++ [r1]).flatMap rcc) by simp [rcc]); exact z2.permT [1, 0] rfl
   clear hS115
   exact NX.again (j + 1, Ds ++ [r1], a110, c111) ⟨⟨by omega, by rw [take_snocM hd1, List.map_append, List.map_append, hDs, List.map_cons, hr1]; rfl, by rw [List.length_append, hDn]; rfl⟩, (hS116.permT [1, 1, 0, 1, 1] (L' := own a110 ((Ds ++ [r1]).length) c111 33 5 ((Ds ++ [r1]).flatMap rcc) :: allA recA (Ds ++ [r1]) :: cel g6 [Value.int .i64 b1.first, Value.int .i64 b1.to, Value.slice oa Rs.length oc, Value.slice a110 ((Ds ++ [r1]).length) c111] 46 :: cel g2 (blc b1) 51 :: (dsA b1.ds) :: allA recA b1.ds.l :: own oa Rs.length oc 93 3 (Rs.flatMap mrc) :: allA mrA Rs :: (rsA b1.rs) :: allA mrA b1.rs.l :: cel g4 [Value.int .i64 0, Value.int .i64 0, Value.slice none 0 0, Value.slice none 0 0] 46 :: blA b1 :: L) rfl)⟩ (by show b1.ds.l.length - (j + 1) < b1.ds.l.length - j; omega) (Sub.cons rfl (Sub.cons rfl (Sub.cons rfl (Sub.consE rfl (by congr 1) (Sub.nil _)))))
  ·
   refine WP.exit (NX.thenExit (NX.thenExit ?_))
   refine NX.blkExit ?_
   refine NX.go (WP.seq (WP.region rfl ?_))
   refine WO.V (run_loadAgg (vs := [Value.int .i64 b1.first, Value.int .i64 b1.to, Value.slice oa Rs.length oc, Value.slice da Ds.length dc]) Ty.ag46 Ty.sz46 rfl rfl (cell_all (hS99.cel_at 2 rfl) 0 rfl)) ?_
   refine WO.store (l' := [Value.int .i64 b1.first, Value.int .i64 b1.to, Value.slice oa Rs.length oc, Value.slice da Ds.length dc]) 10 hS99 rfl Ty.sz46 rfl rfl rfl rfl rfl (Nat.le_of_ble_eq_true rfl) rfl (fun w117 (hS117 : St B (own da Ds.length dc 33 5 (Ds.flatMap rcc) :: allA recA Ds :: cel g6 [Value.int .i64 b1.first, Value.int .i64 b1.to, Value.slice oa Rs.length oc, Value.slice da Ds.length dc] 46 :: cel g2 (blc b1) 51 :: (dsA b1.ds) :: allA recA b1.ds.l :: own oa Rs.length oc 93 3 (Rs.flatMap mrc) :: allA mrA Rs :: (rsA b1.rs) :: allA mrA b1.rs.l :: cel g4 [Value.int .i64 b1.first, Value.int .i64 b1.to, Value.slice oa Rs.length oc, Value.slice da Ds.length dc] 46 :: blA b1 :: L) w117) => ?_)
   clear hS99
   refine WO.nil (NX.go (WP.ret ?_))
   refine NX.doneC (l := [.cell 2 46]) rfl (.cons (.cell rfl (loadVar_agg (vs := [Value.int .i64 b1.first, Value.int .i64 b1.to, Value.slice oa Rs.length oc, Value.slice da Ds.length dc]) Ty.ag46 Ty.sz46 rfl (cell_all (hS117.cel_at 10 rfl) 0 rfl))) .nil) ?_
   have hq1 : St B (rsA (⟨b1.first, b1.to, ⟨oa, Rs, oc⟩, ⟨da, Ds, dc⟩⟩ : BlkV).rs :: own da Ds.length dc 33 5 (Ds.flatMap rcc) :: allA recA Ds :: cel g6 [Value.int .i64 b1.first, Value.int .i64 b1.to, Value.slice oa Rs.length oc, Value.slice da Ds.length dc] 46 :: cel g2 (blc b1) 51 :: (dsA b1.ds) :: allA recA b1.ds.l :: allA mrA Rs :: (rsA b1.rs) :: allA mrA b1.rs.l :: cel g4 [Value.int .i64 b1.first, Value.int .i64 b1.to, Value.slice oa Rs.length oc, Value.slice da Ds.length dc] 46 :: blA b1 :: L) w117 := rdH_own (hS117.permT [6] (L' := own oa Rs.length oc 93 3 (Rs.flatMap mrc) :: own da Ds.length dc 33 5 (Ds.flatMap rcc) :: allA recA Ds :: cel g6 [Value.int .i64 b1.first, Value.int .i64 b1.to, Value.slice oa Rs.length oc, Value.slice da Ds.length dc] 46 :: cel g2 (blc b1) 51 :: (dsA b1.ds) :: allA recA b1.ds.l :: allA mrA Rs :: (rsA b1.rs) :: allA mrA b1.rs.l :: cel g4 [Value.int .i64 b1.first, Value.int .i64 b1.to, Value.slice oa Rs.length oc, Value.slice da Ds.length dc] 46 :: blA b1 :: L) rfl)
   have hq2 : St B (dsA (⟨b1.first, b1.to, ⟨oa, Rs, oc⟩, ⟨da, Ds, dc⟩⟩ : BlkV).ds :: rsA (⟨b1.first, b1.to, ⟨oa, Rs, oc⟩, ⟨da, Ds, dc⟩⟩ : BlkV).rs :: allA recA Ds :: cel g6 [Value.int .i64 b1.first, Value.int .i64 b1.to, Value.slice oa Rs.length oc, Value.slice da Ds.length dc] 46 :: cel g2 (blc b1) 51 :: (dsA b1.ds) :: allA recA b1.ds.l :: allA mrA Rs :: (rsA b1.rs) :: allA mrA b1.rs.l :: cel g4 [Value.int .i64 b1.first, Value.int .i64 b1.to, Value.slice oa Rs.length oc, Value.slice da Ds.length dc] 46 :: blA b1 :: L) w117 := rdH_own (hq1.permT [1] (L' := own da Ds.length dc 33 5 (Ds.flatMap rcc) :: rsA (⟨b1.first, b1.to, ⟨oa, Rs, oc⟩, ⟨da, Ds, dc⟩⟩ : BlkV).rs :: allA recA Ds :: cel g6 [Value.int .i64 b1.first, Value.int .i64 b1.to, Value.slice oa Rs.length oc, Value.slice da Ds.length dc] 46 :: cel g2 (blc b1) 51 :: (dsA b1.ds) :: allA recA b1.ds.l :: allA mrA Rs :: (rsA b1.rs) :: allA mrA b1.rs.l :: cel g4 [Value.int .i64 b1.first, Value.int .i64 b1.to, Value.slice oa Rs.length oc, Value.slice da Ds.length dc] 46 :: blA b1 :: L) rfl)
   have hq3 := (((hq2.mask [true, true, true, false, false, false, false, true, false, false, false] (L' := dsA (⟨b1.first, b1.to, ⟨oa, Rs, oc⟩, ⟨da, Ds, dc⟩⟩ : BlkV).ds :: rsA (⟨b1.first, b1.to, ⟨oa, Rs, oc⟩, ⟨da, Ds, dc⟩⟩ : BlkV).rs :: allA recA Ds :: allA mrA Rs :: blA b1 :: L) rfl).permT [0, 1, 1] (L' := dsA (⟨b1.first, b1.to, ⟨oa, Rs, oc⟩, ⟨da, Ds, dc⟩⟩ : BlkV).ds :: allA recA Ds :: allA mrA Rs :: rsA (⟨b1.first, b1.to, ⟨oa, Rs, oc⟩, ⟨da, Ds, dc⟩⟩ : BlkV).rs :: blA b1 :: L) rfl)).join
   have hq4 := (hq3.permT [1, 0, 0, 0] (L' := allA mrA Rs :: .sep (dsA (⟨b1.first, b1.to, ⟨oa, Rs, oc⟩, ⟨da, Ds, dc⟩⟩ : BlkV).ds) (allA recA Ds) :: rsA (⟨b1.first, b1.to, ⟨oa, Rs, oc⟩, ⟨da, Ds, dc⟩⟩ : BlkV).rs :: blA b1 :: L) rfl).join
   have hq5 := (hq4.permT [1, 0, 0] (L' := rsA (⟨b1.first, b1.to, ⟨oa, Rs, oc⟩, ⟨da, Ds, dc⟩⟩ : BlkV).rs :: .sep (allA mrA Rs) (.sep (dsA (⟨b1.first, b1.to, ⟨oa, Rs, oc⟩, ⟨da, Ds, dc⟩⟩ : BlkV).ds) (allA recA Ds)) :: blA b1 :: L) rfl).join
   exact ⟨(⟨b1.first, b1.to, ⟨oa, Rs, oc⟩, ⟨da, Ds, dc⟩⟩ : BlkV), rfl, by show BlkP.mk _ _ _ _ = BlkP.mk _ _ _ _; rw [show (⟨b1.first, b1.to, ⟨oa, Rs, oc⟩, ⟨da, Ds, dc⟩⟩ : BlkV).rs.l.map MRow.p = b1.rs.l.map MRow.p by rw [show b1.rs.l = b1.rs.l.take i from (List.take_of_length_le (by omega)).symm]; exact hRs, show (⟨b1.first, b1.to, ⟨oa, Rs, oc⟩, ⟨da, Ds, dc⟩⟩ : BlkV).ds.l.map Rcd.p = b1.ds.l.map Rcd.p by rw [show b1.ds.l = b1.ds.l.take j from (List.take_of_length_le (by omega)).symm]; exact hDs], hq5⟩
end Go.Proofs.YtidoidoelgfnaaaGreatDoor.SL
