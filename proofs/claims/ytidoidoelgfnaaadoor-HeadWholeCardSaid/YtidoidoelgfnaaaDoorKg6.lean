/- Records that share nothing: the samples are owned. -/
import Derived.Test.YtidoidoelgfnaaaDoorKg1M
namespace Go.Proofs.YtidoidoelgfnaaaDoor.SL
open Go.RowKit Go.Proofs.YtidoidoelgfnaaaDoor
open Go.Proofs.YtidoidoelgfnaaaDoorW.PrintLast (rtab opsOf)
set_option linter.unusedVariables false
set_option linter.unusedSimpArgs false
theorem own12o_spec {B w : World} {L : List HP} (r : Rcd) (hz : SzR r) (hS : St B (recA r :: L) w) : Does Tryd.prog 10 [Value.agg #[Value.int .i64 r.k, Value.slice r.ss.a r.ss.l.length r.ss.cap, Value.slice r.ms.a r.ms.l.length r.ms.cap, Value.int .i64 r.fr, Value.int .i64 r.to]] w (fun v w1 => ∃ r1 : Rcd, v = .agg (rcc r1).toArray ∧ r1.p = r.p ∧ St B (own r1.ss.a r1.ss.l.length r1.ss.cap 40 3 (r1.ss.l.flatMap smc) :: rdH r1.ms.a r1.ms.l.length 3 (r1.ms.l.flatMap mtc) :: smsA r1.ss.l :: recA r :: L) w1) := by
 replace hS := recA_open hS
 have hns := hz.ns
 have hnm := hz.nm
 refine enter (n := 35) Tryd.func10 rfl rfl [Value.agg #[Value.int .i64 r.k, Value.slice r.ss.a r.ss.l.length r.ss.cap, Value.slice r.ms.a r.ms.l.length r.ms.cap, Value.int .i64 r.fr, Value.int .i64 r.to]] rfl ?_
 refine WP.seq (WP.region rfl ?_)
 refine WO.box (l := (rcc r)) hS rfl rfl rfl (fun g2 w1 lg2 hS1 => ?_)
 clear hS
 refine WO.alloc (l := [Value.int .i64 0, Value.slice none 0 0, Value.slice none 0 0, Value.int .i64 0, Value.int .i64 0]) hS1 Ty.zr26 rfl rfl (fun g4 w3 lg4 hS3 => ?_)
 clear hS1
 refine WO.nil (NX.go (WP.seq (WP.region rfl ?_)))
 refine WO.asg rfl rfl ?_
 refine WO.nil (NX.go (WP.seq (WP.seq (WP.region rfl ?_))))
 refine WO.asg rfl rfl ?_
 refine WO.nil (NX.go (WP.block ?_))
 replace hS3 := (St.addPure trivial hS3 : St B (smsA [] :: cel g4 [Value.int .i64 0, Value.slice none 0 0, Value.slice none 0 0, Value.int .i64 0, Value.int .i64 0] 26 :: cel g2 (rcc r) 26 :: (rdH r.ss.a r.ss.l.length 3 (r.ss.l.flatMap smc)) :: (rdH r.ms.a r.ms.l.length 3 (r.ms.l.flatMap mtc)) :: smsA r.ss.l :: recA r :: L) w3)
 replace hS3 := hS3.own_nil 40 3
 refine WP.loop (α := Nat × List Smp × Option Addr × Nat) (fun x => match x with | ⟨i, sl, oa, oc⟩ => [(1, Value.pointer (some ⟨g2, 0, none⟩)), (2, Value.pointer (some ⟨g4, 0, none⟩)), (3, Value.slice oa sl.length oc), (4, Value.int .i64 (i : Int))]) (fun x w => match x with | ⟨i, sl, oa, oc⟩ => (i ≤ r.ss.l.length ∧ sl.map Smp.p = (r.ss.l.take i).map Smp.p ∧ sl.length = i) ∧ St B (own oa sl.length oc 40 3 (sl.flatMap smc) :: smsA sl :: cel g4 [Value.int .i64 0, Value.slice none 0 0, Value.slice none 0 0, Value.int .i64 0, Value.int .i64 0] 26 :: cel g2 (rcc r) 26 :: (rdH r.ss.a r.ss.l.length 3 (r.ss.l.flatMap smc)) :: (rdH r.ms.a r.ms.l.length 3 (r.ms.l.flatMap mtc)) :: smsA r.ss.l :: recA r :: L) w) (fun x => match x with | ⟨i, sl, oa, oc⟩ => r.ss.l.length - i) (0, [], none, 0) ⟨⟨Nat.zero_le _, rfl, rfl⟩, hS3⟩ (Sub.cons rfl (Sub.cons rfl (Sub.consE rfl (by first | rfl | first | rfl | (congr 1; omega) | (simp; done) | (simp; omega)) (Sub.consE rfl (by first | rfl | first | rfl | (congr 1; omega) | (simp; done) | (simp; omega)) (Sub.nil _))))) ?_
 rintro ⟨i, sl, oa, oc⟩ w5 ⟨⟨hi, hsl, hsn⟩, hS5⟩
 clear hS3
 refine WP.seq (WP.seq (WP.region rfl ?_))
 refine WO.mv rfl rfl ?_
 refine WO.V (run_fa 1 ⟨g2, 1, none⟩ rfl rfl) ?_
 refine WO.V (run_load Ty.ag23 rfl ((hS5.cel_at 3 rfl 1).trans rfl)) ?_
 refine WO.V (run_len rfl Tryd.underlying23 rfl) ?_
 refine WO.V (run_lss rfl rfl) ?_
 refine WO.nil (NX.go ?_)
 refine WP.condP rfl (fun g10 => ?_) (fun g10 => ?_)
 ·
  refine WP.skip (NX.go (WP.seq (WP.block (WP.seq ?_))))
  obtain ⟨z, hz1⟩ : ∃ qq, r.ss.l[i]? = some qq := ⟨_, List.getElem?_eq_getElem (by omega)⟩
  have hsa : r.ss.a.isSome = true := rd_isSome ((rdH_rd (hS5.focus 4 rfl))) (by omega)
  have hS6 := smsA_get hz1 (hS5.permT [6] (L' := smsA r.ss.l :: own oa sl.length oc 40 3 (sl.flatMap smc) :: smsA sl :: cel g4 [Value.int .i64 0, Value.slice none 0 0, Value.slice none 0 0, Value.int .i64 0, Value.int .i64 0] 26 :: cel g2 (rcc r) 26 :: (rdH r.ss.a r.ss.l.length 3 (r.ss.l.flatMap smc)) :: (rdH r.ms.a r.ms.l.length 3 (r.ms.l.flatMap mtc)) :: recA r :: L) rfl)
  clear hS5
  have hzz := hz.s z (List.mem_of_getElem? hz1)
  refine WP.region rfl ?_
  refine WO.V (run_fa 1 ⟨g2, 1, none⟩ rfl rfl) ?_
  refine WO.V (run_load Ty.ag23 rfl ((hS6.cel_at 5 rfl 1).trans rfl)) ?_
  refine WO.mv rfl rfl ?_
  refine WO.V (run_indexAddr (q := adr r.ss.a (i * 3)) Tryd.underlying23 Ty.sz40 rfl rfl (by omega) (by omega) ((rdH_rd (hS6.focus 6 rfl)).2.1 (by omega)) rfl) ?_
  refine WO.V (run_loadAgg (vs := (smc z)) Ty.ag40 Ty.sz40 rfl ((rdH_rd (hS6.focus 6 rfl)).cells (by rw [flat_len smc_len]; omega) (flat_part smc_len hz1)).1 ((rdH_rd (hS6.focus 6 rfl)).cells (by rw [flat_len smc_len]; omega) (flat_part smc_len hz1)).2) ?_
  refine WO.alloc (l := [Value.slice none 0 0, Value.int .i64 0, Value.int .u64 0]) hS6 Ty.zr40 rfl rfl (fun g8 w7 lg8 hS7 => ?_)
  clear hS6
  refine WO.store (l' := (smc z)) 0 hS7 rfl Ty.sz40 rfl rfl rfl rfl rfl (Nat.le_of_ble_eq_true rfl) rfl (fun w9 (hS9 : St B (cel g8 (smc z) 40 :: (labA z.lb) :: smsA r.ss.l :: own oa sl.length oc 40 3 (sl.flatMap smc) :: smsA sl :: cel g4 [Value.int .i64 0, Value.slice none 0 0, Value.slice none 0 0, Value.int .i64 0, Value.int .i64 0] 26 :: cel g2 (rcc r) 26 :: (rdH r.ss.a r.ss.l.length 3 (r.ss.l.flatMap smc)) :: (rdH r.ms.a r.ms.l.length 3 (r.ms.l.flatMap mtc)) :: recA r :: L) w9) => ?_)
  clear hS7
  refine WO.nil (NX.go (WP.seq (WP.region rfl ?_)))
  refine WO.buildSlice (l := []) hS9 Tryd.underlying38 rfl (fun w => by kernel_rfl) rfl (fun g11 w10 lg11 hS10 => ?_)
  clear hS9
  have hS10 := hS10.own_of_cel (m := 0) (k := 2) rfl
  refine WO.V (run_fa 0 ⟨g8, 0, none⟩ rfl rfl) ?_
  refine WO.V (run_load Ty.ag38 rfl ((hS10.cel_at 1 rfl 0).trans rfl)) ?_
  refine WO.append (news := (z.lb.l.flatMap prc)) 0 rfl Tryd.underlying38 Tryd.underlying38 (fun _ h => by cases h) Ty.sz53 (by decide) Ty.by53 Ty.zr53 rfl rfl rfl rfl hS10 rfl ((rdH_rd (hS10.focus 2 rfl)).src) (flat_noAgg prc_na _) (by omega) (by omega) (fun a13 c14 w12 hS12 => ?_)
  replace hS12 : St B (own a13 (0 + z.lb.l.length) c14 53 2 ([] ++ (z.lb.l.flatMap prc)) :: cel g8 (smc z) 40 :: (labA z.lb) :: smsA r.ss.l :: own oa sl.length oc 40 3 (sl.flatMap smc) :: smsA sl :: cel g4 [Value.int .i64 0, Value.slice none 0 0, Value.slice none 0 0, Value.int .i64 0, Value.int .i64 0] 26 :: cel g2 (rcc r) 26 :: (rdH r.ss.a r.ss.l.length 3 (r.ss.l.flatMap smc)) :: (rdH r.ms.a r.ms.l.length 3 (r.ms.l.flatMap mtc)) :: recA r :: L) w12 := hS12
  clear hS10
  refine WO.V (run_fa 0 ⟨g8, 0, none⟩ rfl rfl) ?_
  refine WO.store (l' := [Value.slice a13 (0 + z.lb.l.length) c14, Value.int .i64 z.t, Value.int .u64 z.v]) 1 hS12 rfl Ty.sz38 rfl rfl rfl rfl rfl (Nat.le_of_ble_eq_true rfl) rfl (fun w15 (hS15 : St B (own a13 (0 + z.lb.l.length) c14 53 2 ([] ++ (z.lb.l.flatMap prc)) :: cel g8 [Value.slice a13 (0 + z.lb.l.length) c14, Value.int .i64 z.t, Value.int .u64 z.v] 40 :: (labA z.lb) :: smsA r.ss.l :: own oa sl.length oc 40 3 (sl.flatMap smc) :: smsA sl :: cel g4 [Value.int .i64 0, Value.slice none 0 0, Value.slice none 0 0, Value.int .i64 0, Value.int .i64 0] 26 :: cel g2 (rcc r) 26 :: (rdH r.ss.a r.ss.l.length 3 (r.ss.l.flatMap smc)) :: (rdH r.ms.a r.ms.l.length 3 (r.ms.l.flatMap mtc)) :: recA r :: L) w15) => ?_)
  clear hS12
  refine WO.nil (NX.go (WP.region rfl ?_))
  refine WO.mv rfl rfl ?_
  refine WO.V (run_loadAgg (vs := [Value.slice a13 (0 + z.lb.l.length) c14, Value.int .i64 z.t, Value.int .u64 z.v]) Ty.ag40 Ty.sz40 rfl rfl (cell_all (hS15.cel_at 1 rfl) 0 rfl)) ?_
  refine WO.buildSlice (l := [Value.slice a13 (0 + z.lb.l.length) c14, Value.int .i64 z.t, Value.int .u64 z.v]) hS15 Tryd.underlying23 rfl (fun w => by kernel_rfl) rfl (fun g17 w16 lg17 hS16 => ?_)
  clear hS15
  refine WO.append (news := [Value.slice a13 (0 + z.lb.l.length) c14, Value.int .i64 z.t, Value.int .u64 z.v]) 5 rfl Tryd.underlying23 Tryd.underlying23 (fun _ h => by cases h) Ty.sz40 (by decide) Ty.by40 Ty.zr40 rfl rfl rfl rfl hS16 rfl ((hS16.cel_rd 0 rfl (o := 0) (m := 1) (k := 3) rfl (Nat.le_of_ble_eq_true rfl)).src) rfl (by omega) (by omega) (fun a19 c20 w18 hS18 => ?_)
  replace hS18 : St B (cel g17 [Value.slice a13 (0 + z.lb.l.length) c14, Value.int .i64 z.t, Value.int .u64 z.v] 40 :: own a13 (0 + z.lb.l.length) c14 53 2 ([] ++ (z.lb.l.flatMap prc)) :: cel g8 [Value.slice a13 (0 + z.lb.l.length) c14, Value.int .i64 z.t, Value.int .u64 z.v] 40 :: (labA z.lb) :: smsA r.ss.l :: own a19 (sl.length + 1) c20 40 3 ((sl.flatMap smc) ++ [Value.slice a13 (0 + z.lb.l.length) c14, Value.int .i64 z.t, Value.int .u64 z.v]) :: smsA sl :: cel g4 [Value.int .i64 0, Value.slice none 0 0, Value.slice none 0 0, Value.int .i64 0, Value.int .i64 0] 26 :: cel g2 (rcc r) 26 :: (rdH r.ss.a r.ss.l.length 3 (r.ss.l.flatMap smc)) :: (rdH r.ms.a r.ms.l.length 3 (r.ms.l.flatMap mtc)) :: recA r :: L) w18 := hS18
  clear hS16
  refine WO.asg rfl rfl ?_
  refine WO.nil (NX.blk (NX.go (WP.region rfl ?_)))
  refine WO.mv rfl rfl ?_
  refine WO.V (run_add rfl rfl (IntWalk.i64_in _ (by omega))) ?_
  refine WO.asg rfl rfl ?_
  refine WO.nil ?_
  have hS21 : St B (labA (⟨⟨a13, z.lb.l, c14⟩, z.t, z.v⟩ : Smp).lb :: cel g17 [Value.slice a13 (0 + z.lb.l.length) c14, Value.int .i64 z.t, Value.int .u64 z.v] 40 :: cel g8 [Value.slice a13 (0 + z.lb.l.length) c14, Value.int .i64 z.t, Value.int .u64 z.v] 40 :: (labA z.lb) :: smsA r.ss.l :: own a19 (sl.length + 1) c20 40 3 ((sl.flatMap smc) ++ [Value.slice a13 (0 + z.lb.l.length) c14, Value.int .i64 z.t, Value.int .u64 z.v]) :: smsA sl :: cel g4 [Value.int .i64 0, Value.slice none 0 0, Value.slice none 0 0, Value.int .i64 0, Value.int .i64 0] 26 :: cel g2 (rcc r) 26 :: (rdH r.ss.a r.ss.l.length 3 (r.ss.l.flatMap smc)) :: (rdH r.ms.a r.ms.l.length 3 (r.ms.l.flatMap mtc)) :: recA r :: L) w18 := rdH_own (own_eqM (hS18.permT [1] (L' := own a13 (0 + z.lb.l.length) c14 53 2 ([] ++ (z.lb.l.flatMap prc)) :: cel g17 [Value.slice a13 (0 + z.lb.l.length) c14, Value.int .i64 z.t, Value.int .u64 z.v] 40 :: cel g8 [Value.slice a13 (0 + z.lb.l.length) c14, Value.int .i64 z.t, Value.int .u64 z.v] 40 :: (labA z.lb) :: smsA r.ss.l :: own a19 (sl.length + 1) c20 40 3 ((sl.flatMap smc) ++ [Value.slice a13 (0 + z.lb.l.length) c14, Value.int .i64 z.t, Value.int .u64 z.v]) :: smsA sl :: cel g4 [Value.int .i64 0, Value.slice none 0 0, Value.slice none 0 0, Value.int .i64 0, Value.int .i64 0] 26 :: cel g2 (rcc r) 26 :: (rdH r.ss.a r.ss.l.length 3 (r.ss.l.flatMap smc)) :: (rdH r.ms.a r.ms.l.length 3 (r.ms.l.flatMap mtc)) :: recA r :: L) rfl) (by simp) (by simp))
  clear hS18
  have hS22 := smsA_snoc (s := (⟨⟨a13, z.lb.l, c14⟩, z.t, z.v⟩ : Smp)) (hS21.permT [6] (L' := smsA sl :: labA (⟨⟨a13, z.lb.l, c14⟩, z.t, z.v⟩ : Smp).lb :: cel g17 [Value.slice a13 (0 + z.lb.l.length) c14, Value.int .i64 z.t, Value.int .u64 z.v] 40 :: cel g8 [Value.slice a13 (0 + z.lb.l.length) c14, Value.int .i64 z.t, Value.int .u64 z.v] 40 :: (labA z.lb) :: smsA r.ss.l :: own a19 (sl.length + 1) c20 40 3 ((sl.flatMap smc) ++ [Value.slice a13 (0 + z.lb.l.length) c14, Value.int .i64 z.t, Value.int .u64 z.v]) :: cel g4 [Value.int .i64 0, Value.slice none 0 0, Value.slice none 0 0, Value.int .i64 0, Value.int .i64 0] 26 :: cel g2 (rcc r) 26 :: (rdH r.ss.a r.ss.l.length 3 (r.ss.l.flatMap smc)) :: (rdH r.ms.a r.ms.l.length 3 (r.ms.l.flatMap mtc)) :: recA r :: L) rfl)
  clear hS21
  exact NX.again (i + 1, sl ++ [(⟨⟨a13, z.lb.l, c14⟩, z.t, z.v⟩ : Smp)], a19, c20) ⟨⟨by omega, by rw [take_snocM hz1, List.map_append, List.map_append, hsl]; rfl, by rw [List.length_append, hsn]; rfl⟩, own_eqM ((hS22.mask [true, false, false, false] (L' := smsA (sl ++ [(⟨⟨a13, z.lb.l, c14⟩, z.t, z.v⟩ : Smp)]) :: smsA r.ss.l :: own a19 (sl.length + 1) c20 40 3 ((sl.flatMap smc) ++ [Value.slice a13 (0 + z.lb.l.length) c14, Value.int .i64 z.t, Value.int .u64 z.v]) :: cel g4 [Value.int .i64 0, Value.slice none 0 0, Value.slice none 0 0, Value.int .i64 0, Value.int .i64 0] 26 :: cel g2 (rcc r) 26 :: (rdH r.ss.a r.ss.l.length 3 (r.ss.l.flatMap smc)) :: (rdH r.ms.a r.ms.l.length 3 (r.ms.l.flatMap mtc)) :: recA r :: L) rfl).permT [2, 0, 1, 1, 1, 1] (L' := own a19 (sl.length + 1) c20 40 3 ((sl.flatMap smc) ++ [Value.slice a13 (0 + z.lb.l.length) c14, Value.int .i64 z.t, Value.int .u64 z.v]) :: smsA (sl ++ [(⟨⟨a13, z.lb.l, c14⟩, z.t, z.v⟩ : Smp)]) :: cel g4 [Value.int .i64 0, Value.slice none 0 0, Value.slice none 0 0, Value.int .i64 0, Value.int .i64 0] 26 :: cel g2 (rcc r) 26 :: (rdH r.ss.a r.ss.l.length 3 (r.ss.l.flatMap smc)) :: (rdH r.ms.a r.ms.l.length 3 (r.ms.l.flatMap mtc)) :: smsA r.ss.l :: recA r :: L) rfl) (by simp) (by simp [smc])⟩ (by show r.ss.l.length - (i + 1) < r.ss.l.length - i; omega) (Sub.cons rfl (Sub.cons rfl (Sub.consE rfl (by simp) (Sub.consE rfl (by congr 1) (Sub.nil _)))))
 ·
  refine WP.exit (NX.thenExit (NX.thenExit ?_))
  refine NX.blkExit ?_
  refine NX.go (WP.seq (WP.region rfl ?_))
  refine WO.mv rfl rfl ?_
  refine WO.V (run_fa 1 ⟨g2, 1, none⟩ rfl rfl) ?_
  refine WO.store (l' := [Value.int .i64 r.k, Value.slice oa sl.length oc, Value.slice r.ms.a r.ms.l.length r.ms.cap, Value.int .i64 r.fr, Value.int .i64 r.to]) 3 hS5 rfl Ty.sz23 rfl rfl rfl rfl rfl (Nat.le_of_ble_eq_true rfl) rfl (fun w23 (hS23 : St B (own oa sl.length oc 40 3 (sl.flatMap smc) :: smsA sl :: cel g4 [Value.int .i64 0, Value.slice none 0 0, Value.slice none 0 0, Value.int .i64 0, Value.int .i64 0] 26 :: cel g2 [Value.int .i64 r.k, Value.slice oa sl.length oc, Value.slice r.ms.a r.ms.l.length r.ms.cap, Value.int .i64 r.fr, Value.int .i64 r.to] 26 :: (rdH r.ss.a r.ss.l.length 3 (r.ss.l.flatMap smc)) :: (rdH r.ms.a r.ms.l.length 3 (r.ms.l.flatMap mtc)) :: smsA r.ss.l :: recA r :: L) w23) => ?_)
  clear hS5
  refine WO.nil (NX.go (WP.seq (WP.region rfl ?_)))
  refine WO.buildSlice (l := []) hS23 Tryd.underlying24 rfl (fun w => by kernel_rfl) rfl (fun g25 w24 lg25 hS24 => ?_)
  clear hS23
  have hS24 := hS24.own_of_cel (m := 0) (k := 3) rfl
  refine WO.V (run_fa 2 ⟨g2, 2, none⟩ rfl rfl) ?_
  refine WO.V (run_load Ty.ag24 rfl ((hS24.cel_at 4 rfl 2).trans rfl)) ?_
  refine WO.append (news := (r.ms.l.flatMap mtc)) 0 rfl Tryd.underlying24 Tryd.underlying24 (fun _ h => by cases h) Ty.sz88 (by decide) Ty.by88 Ty.zr88 rfl rfl rfl rfl hS24 rfl ((rdH_rd (hS24.focus 6 rfl)).src) (flat_noAgg mtc_na _) (by omega) (by omega) (fun a27 c28 w26 hS26 => ?_)
  replace hS26 : St B (own a27 (0 + r.ms.l.length) c28 88 3 ([] ++ (r.ms.l.flatMap mtc)) :: own oa sl.length oc 40 3 (sl.flatMap smc) :: smsA sl :: cel g4 [Value.int .i64 0, Value.slice none 0 0, Value.slice none 0 0, Value.int .i64 0, Value.int .i64 0] 26 :: cel g2 [Value.int .i64 r.k, Value.slice oa sl.length oc, Value.slice r.ms.a r.ms.l.length r.ms.cap, Value.int .i64 r.fr, Value.int .i64 r.to] 26 :: (rdH r.ss.a r.ss.l.length 3 (r.ss.l.flatMap smc)) :: (rdH r.ms.a r.ms.l.length 3 (r.ms.l.flatMap mtc)) :: smsA r.ss.l :: recA r :: L) w26 := hS26
  clear hS24
  refine WO.V (run_fa 2 ⟨g2, 2, none⟩ rfl rfl) ?_
  refine WO.store (l' := [Value.int .i64 r.k, Value.slice oa sl.length oc, Value.slice a27 (0 + r.ms.l.length) c28, Value.int .i64 r.fr, Value.int .i64 r.to]) 4 hS26 rfl Ty.sz24 rfl rfl rfl rfl rfl (Nat.le_of_ble_eq_true rfl) rfl (fun w29 (hS29 : St B (own a27 (0 + r.ms.l.length) c28 88 3 ([] ++ (r.ms.l.flatMap mtc)) :: own oa sl.length oc 40 3 (sl.flatMap smc) :: smsA sl :: cel g4 [Value.int .i64 0, Value.slice none 0 0, Value.slice none 0 0, Value.int .i64 0, Value.int .i64 0] 26 :: cel g2 [Value.int .i64 r.k, Value.slice oa sl.length oc, Value.slice a27 (0 + r.ms.l.length) c28, Value.int .i64 r.fr, Value.int .i64 r.to] 26 :: (rdH r.ss.a r.ss.l.length 3 (r.ss.l.flatMap smc)) :: (rdH r.ms.a r.ms.l.length 3 (r.ms.l.flatMap mtc)) :: smsA r.ss.l :: recA r :: L) w29) => ?_)
  clear hS26
  refine WO.nil (NX.go (WP.seq (WP.region rfl ?_)))
  refine WO.V (run_loadAgg (vs := [Value.int .i64 r.k, Value.slice oa sl.length oc, Value.slice a27 (0 + r.ms.l.length) c28, Value.int .i64 r.fr, Value.int .i64 r.to]) Ty.ag26 Ty.sz26 rfl rfl (cell_all (hS29.cel_at 4 rfl) 0 rfl)) ?_
  refine WO.store (l' := [Value.int .i64 r.k, Value.slice oa sl.length oc, Value.slice a27 (0 + r.ms.l.length) c28, Value.int .i64 r.fr, Value.int .i64 r.to]) 3 hS29 rfl Ty.sz26 rfl rfl rfl rfl rfl (Nat.le_of_ble_eq_true rfl) rfl (fun w30 (hS30 : St B (own a27 (0 + r.ms.l.length) c28 88 3 ([] ++ (r.ms.l.flatMap mtc)) :: own oa sl.length oc 40 3 (sl.flatMap smc) :: smsA sl :: cel g4 [Value.int .i64 r.k, Value.slice oa sl.length oc, Value.slice a27 (0 + r.ms.l.length) c28, Value.int .i64 r.fr, Value.int .i64 r.to] 26 :: cel g2 [Value.int .i64 r.k, Value.slice oa sl.length oc, Value.slice a27 (0 + r.ms.l.length) c28, Value.int .i64 r.fr, Value.int .i64 r.to] 26 :: (rdH r.ss.a r.ss.l.length 3 (r.ss.l.flatMap smc)) :: (rdH r.ms.a r.ms.l.length 3 (r.ms.l.flatMap mtc)) :: smsA r.ss.l :: recA r :: L) w30) => ?_)
  clear hS29
  refine WO.nil (NX.go (WP.ret ?_))
  refine NX.doneC (l := [.cell 2 26]) rfl (.cons (.cell rfl (loadVar_agg (vs := [Value.int .i64 r.k, Value.slice oa sl.length oc, Value.slice a27 (0 + r.ms.l.length) c28, Value.int .i64 r.fr, Value.int .i64 r.to]) Ty.ag26 Ty.sz26 rfl (cell_all (hS30.cel_at 3 rfl) 0 rfl))) .nil) ?_
  have hq2 : St B (rdH (⟨r.k, ⟨oa, sl, oc⟩, ⟨a27, r.ms.l, c28⟩, r.fr, r.to⟩ : Rcd).ms.a (⟨r.k, ⟨oa, sl, oc⟩, ⟨a27, r.ms.l, c28⟩, r.fr, r.to⟩ : Rcd).ms.l.length 3 ((⟨r.k, ⟨oa, sl, oc⟩, ⟨a27, r.ms.l, c28⟩, r.fr, r.to⟩ : Rcd).ms.l.flatMap mtc) :: own oa sl.length oc 40 3 (sl.flatMap smc) :: smsA sl :: cel g4 [Value.int .i64 r.k, Value.slice oa sl.length oc, Value.slice a27 (0 + r.ms.l.length) c28, Value.int .i64 r.fr, Value.int .i64 r.to] 26 :: cel g2 [Value.int .i64 r.k, Value.slice oa sl.length oc, Value.slice a27 (0 + r.ms.l.length) c28, Value.int .i64 r.fr, Value.int .i64 r.to] 26 :: (rdH r.ss.a r.ss.l.length 3 (r.ss.l.flatMap smc)) :: (rdH r.ms.a r.ms.l.length 3 (r.ms.l.flatMap mtc)) :: smsA r.ss.l :: recA r :: L) w30 := rdH_own (own_eqM hS30 (by simp) (by simp))
  have htk : r.ss.l.take i = r.ss.l := List.take_of_length_le (by omega)
  exact ⟨(⟨r.k, ⟨oa, sl, oc⟩, ⟨a27, r.ms.l, c28⟩, r.fr, r.to⟩ : Rcd), by simp [rcc, one]; try omega, by show RcP.mk _ _ _ _ _ = RcP.mk _ _ _ _ _; rw [show (⟨r.k, ⟨oa, sl, oc⟩, ⟨a27, r.ms.l, c28⟩, r.fr, r.to⟩ : Rcd).ss.l.map Smp.p = r.ss.l.map Smp.p by rw [← htk]; exact hsl], ((hq2.mask [true, true, true, false, false, false, false, false] (L' := rdH (⟨r.k, ⟨oa, sl, oc⟩, ⟨a27, r.ms.l, c28⟩, r.fr, r.to⟩ : Rcd).ms.a (⟨r.k, ⟨oa, sl, oc⟩, ⟨a27, r.ms.l, c28⟩, r.fr, r.to⟩ : Rcd).ms.l.length 3 ((⟨r.k, ⟨oa, sl, oc⟩, ⟨a27, r.ms.l, c28⟩, r.fr, r.to⟩ : Rcd).ms.l.flatMap mtc) :: own oa sl.length oc 40 3 (sl.flatMap smc) :: smsA sl :: recA r :: L) rfl).permT [1] (L' := own oa sl.length oc 40 3 (sl.flatMap smc) :: rdH (⟨r.k, ⟨oa, sl, oc⟩, ⟨a27, r.ms.l, c28⟩, r.fr, r.to⟩ : Rcd).ms.a (⟨r.k, ⟨oa, sl, oc⟩, ⟨a27, r.ms.l, c28⟩, r.fr, r.to⟩ : Rcd).ms.l.length 3 ((⟨r.k, ⟨oa, sl, oc⟩, ⟨a27, r.ms.l, c28⟩, r.fr, r.to⟩ : Rcd).ms.l.flatMap mtc) :: smsA sl :: recA r :: L) rfl)⟩
end Go.Proofs.YtidoidoelgfnaaaDoor.SL
